/- Functions of the program as Lean functions, each with the proof that its call comes to what that function says (texts written by a program of this session). Conditions: those that stand in each theorem. -/
import Derived.Test.YtnehephjliankaaDoorPFnExactTermsTextx0
import Derived.Test.YtnehephjliankaaDoorPFnExactTermsTextx5
import Derived.Test.YtnehephjliankaaDoorPFnExactTermsTextx6
namespace Go.Proofs.YtnehephjliankaaDoor.PFnExactTermsText
open Go.RowKit Go.Proofs.YtnehephjliankaaDoorW.PrintWords Go.Proofs.YtnehephjliankaaDoorW.PrintLast Go.Proofs.YtnehephjliankaaDoorW.PrintMore
attribute [local go_sem] max2_int min2_int max_two min_two max_three min_three max_four min_four   -- for this text's walks alone
set_option linter.unusedVariables false
set_option linter.unusedSimpArgs false

/-! ### spec_l12Tail: function 75 -/
def spec_l12Tail.f : Nat → List (S72) → Int → Option (ByteArray)
 | 0, _, _ => none
 | k + 1, l0, a1 => if 0 ≤ a1 then (if a1 < (l0.length : Int) then (if ((rd_T72 l0 a1).f0) = 1 then (some (⟨#[]⟩ : ByteArray)) else (if ((rd_T72 l0 a1).f0) = 2 then ((spec_l7Flags.f k ((rd_T72 l0 a1).f1)).bind fun t223 => (if 1 + t223.size ≤ 9223372036854775807 then (some ((⟨#[32]⟩ : ByteArray) ++ t223)) else (none))) else (if ((rd_T72 l0 a1).f0) = 6 then ((spec_l2Encode.f k 4 ((rd_T72 l0 a1).f2)).bind fun bt224 => (if 1 + (strOfNums bt224.1).size ≤ 9223372036854775807 then (some ((⟨#[32]⟩ : ByteArray) ++ (strOfNums bt224.1))) else (none))) else (if ((rd_T72 l0 a1).f0) = 7 then ((spec_l2Encode.f k 4 ((rd_T72 l0 a1).f2)).bind fun bt228 => (if 1 + (strOfNums bt228.1).size ≤ 9223372036854775807 then (some ((⟨#[32]⟩ : ByteArray) ++ (strOfNums bt228.1))) else (none))) else (if ((rd_T72 l0 a1).f0) = 8 then ((spec_l11Text.f k ((rd_T72 l0 a1).f3)).bind fun t232 => (if 1 + t232.size ≤ 9223372036854775807 then (some ((⟨#[32]⟩ : ByteArray) ++ t232)) else (none))) else (if ((rd_T72 l0 a1).f0) = 9 then ((spec_l12Text.g (spec_l12Tail.f k) l0 ((rd_T72 l0 a1).f4)).bind fun t233 => (if 1 + t233.size ≤ 9223372036854775807 then (some ((⟨#[32]⟩ : ByteArray) ++ t233)) else (none))) else (if ((rd_T72 l0 a1).f0) = 10 then ((spec_l12Text.g (spec_l12Tail.f k) l0 ((rd_T72 l0 a1).f4)).bind fun t235 => (if 1 + t235.size ≤ 9223372036854775807 then (if ((⟨#[32]⟩ : ByteArray) ++ t235).size + 1 ≤ 9223372036854775807 then ((spec_l12Text.g (spec_l12Tail.f k) l0 ((rd_T72 l0 a1).f5)).bind fun t237 => (if (((⟨#[32]⟩ : ByteArray) ++ t235) ++ (⟨#[32]⟩ : ByteArray)).size + t237.size ≤ 9223372036854775807 then (some ((((⟨#[32]⟩ : ByteArray) ++ t235) ++ (⟨#[32]⟩ : ByteArray)) ++ t237)) else (none))) else (none)) else (none))) else (if ((rd_T72 l0 a1).f0) = 11 then ((spec_l12Text.g (spec_l12Tail.f k) l0 ((rd_T72 l0 a1).f4)).bind fun t239 => (if 1 + t239.size ≤ 9223372036854775807 then (if ((⟨#[32]⟩ : ByteArray) ++ t239).size + 1 ≤ 9223372036854775807 then ((spec_l12Text.g (spec_l12Tail.f k) l0 ((rd_T72 l0 a1).f5)).bind fun t241 => (if (((⟨#[32]⟩ : ByteArray) ++ t239) ++ (⟨#[32]⟩ : ByteArray)).size + t241.size ≤ 9223372036854775807 then (some ((((⟨#[32]⟩ : ByteArray) ++ t239) ++ (⟨#[32]⟩ : ByteArray)) ++ t241)) else (none))) else (none)) else (none))) else ((spec_l1Digits.f k ((rd_T72 l0 a1).f1)).bind fun t242 => (if 1 + t242.size ≤ 9223372036854775807 then (some ((⟨#[32]⟩ : ByteArray) ++ t242)) else (none))))))))))) else (none)) else (none)
def spec_l12Tail.T17 : Bool × List (List Nat × List Nat) := (true, [([], []), ([], []), ([1], [1]), ([2], [2]), ([3], [3]), ([0, 4], [0, 4]), ([5], [5]), ([6], [6]), ([], []), ([], []), ([9], [9]), ([10], [10]), ([11], [11]), ([8, 12, 5], [8, 12]), ([7, 13], [7, 13]), ([14, 13, 0, 1, 2, 3, 4, 5, 6, 7, 8, 9, 10, 11, 12, 13, 14], [14])])
def spec_l12Tail.B17 : List Nat := [0, 0, 2, 6, 14, 31, 63, 127, 0, 0, 512, 1536, 3584, 7999, 16383, 32767]
theorem spec_l12Tail.tab17 : rtab .any (opsOf Tryd.f75 17) = spec_l12Tail.T17 := by kernel_rfl
theorem spec_l12Tail.bits17 : waitsOk spec_l12Tail.T17.2 spec_l12Tail.B17 = true := by kernel_rfl
set_option maxHeartbeats 8000000 in
set_option maxRecDepth 100000 in
theorem spec_l12Tail.calls (k : Nat) : ∀ (A0 : Option Addr) (c0 : Nat) (l0 : List (S72)) (a1 : Int) (r : ByteArray) (w : World) (hr0 : Kd.C k72 w A0 l0.length l0) (hc0 : l0.length ≤ c0) (h : spec_l12Tail.f k l0 a1 = some r),
 Calls Tryd.prog 75 #[.slice A0 l0.length c0, .int .i64 a1] w fun e w' => e = .returned (.string r) ∧ Below w.heap.size w w' := by
 induction k using Nat.strongRecOn with
 | _ k ih =>
 intro A0 c0 l0 a1 r w hr0 hc0 h
 cases k with
 | zero => exact absurd h (by simp [spec_l12Tail.f])
 | succ k =>
 simp only [spec_l12Tail.f] at h
 have HR0 := Aside0.mk hr0
 have HC0 := Aside0.mk hc0
 clear hr0 hc0
 have HB := Aside0.mk (Below.refl w.heap.size w)
 have H : (if 0 ≤ a1 then (if a1 < (l0.length : Int) then (if ((rd_T72 l0 a1).f0) = 1 then (some (⟨#[]⟩ : ByteArray)) else (if ((rd_T72 l0 a1).f0) = 2 then ((spec_l7Flags.f k ((rd_T72 l0 a1).f1)).bind fun t223 => (if 1 + t223.size ≤ 9223372036854775807 then (some ((⟨#[32]⟩ : ByteArray) ++ t223)) else (none))) else (if ((rd_T72 l0 a1).f0) = 6 then ((spec_l2Encode.f k 4 ((rd_T72 l0 a1).f2)).bind fun bt224 => (if 1 + (strOfNums bt224.1).size ≤ 9223372036854775807 then (some ((⟨#[32]⟩ : ByteArray) ++ (strOfNums bt224.1))) else (none))) else (if ((rd_T72 l0 a1).f0) = 7 then ((spec_l2Encode.f k 4 ((rd_T72 l0 a1).f2)).bind fun bt228 => (if 1 + (strOfNums bt228.1).size ≤ 9223372036854775807 then (some ((⟨#[32]⟩ : ByteArray) ++ (strOfNums bt228.1))) else (none))) else (if ((rd_T72 l0 a1).f0) = 8 then ((spec_l11Text.f k ((rd_T72 l0 a1).f3)).bind fun t232 => (if 1 + t232.size ≤ 9223372036854775807 then (some ((⟨#[32]⟩ : ByteArray) ++ t232)) else (none))) else (if ((rd_T72 l0 a1).f0) = 9 then ((spec_l12Text.g (spec_l12Tail.f k) l0 ((rd_T72 l0 a1).f4)).bind fun t233 => (if 1 + t233.size ≤ 9223372036854775807 then (some ((⟨#[32]⟩ : ByteArray) ++ t233)) else (none))) else (if ((rd_T72 l0 a1).f0) = 10 then ((spec_l12Text.g (spec_l12Tail.f k) l0 ((rd_T72 l0 a1).f4)).bind fun t235 => (if 1 + t235.size ≤ 9223372036854775807 then (if ((⟨#[32]⟩ : ByteArray) ++ t235).size + 1 ≤ 9223372036854775807 then ((spec_l12Text.g (spec_l12Tail.f k) l0 ((rd_T72 l0 a1).f5)).bind fun t237 => (if (((⟨#[32]⟩ : ByteArray) ++ t235) ++ (⟨#[32]⟩ : ByteArray)).size + t237.size ≤ 9223372036854775807 then (some ((((⟨#[32]⟩ : ByteArray) ++ t235) ++ (⟨#[32]⟩ : ByteArray)) ++ t237)) else (none))) else (none)) else (none))) else (if ((rd_T72 l0 a1).f0) = 11 then ((spec_l12Text.g (spec_l12Tail.f k) l0 ((rd_T72 l0 a1).f4)).bind fun t239 => (if 1 + t239.size ≤ 9223372036854775807 then (if ((⟨#[32]⟩ : ByteArray) ++ t239).size + 1 ≤ 9223372036854775807 then ((spec_l12Text.g (spec_l12Tail.f k) l0 ((rd_T72 l0 a1).f5)).bind fun t241 => (if (((⟨#[32]⟩ : ByteArray) ++ t239) ++ (⟨#[32]⟩ : ByteArray)).size + t241.size ≤ 9223372036854775807 then (some ((((⟨#[32]⟩ : ByteArray) ++ t239) ++ (⟨#[32]⟩ : ByteArray)) ++ t241)) else (none))) else (none)) else (none))) else ((spec_l1Digits.f k ((rd_T72 l0 a1).f1)).bind fun t242 => (if 1 + t242.size ≤ 9223372036854775807 then (some ((⟨#[32]⟩ : ByteArray) ++ t242)) else (none))))))))))) else (none)) else (none)) = some r := h
 clear h
 by_cases c3 : 0 ≤ a1
 · rw [if_pos c3] at H
   have c3b0 : decide (0 ≤ a1) = true := decide_eq_true c3
   clear c3
   by_cases c4 : a1 < (l0.length : Int)
   case neg => rw [if_neg c4] at H; exact absurd H (by simp)
   rw [if_pos c4] at H
   have c4b0 : decide (a1 < (l0.length : Int)) = true := decide_eq_true c4
   clear c4
   by_cases c5 : ((rd_T72 l0 a1).f0) = 1
   · rw [if_pos c5] at H
     have c5b0 : (((rd_T72 l0 a1).f0) == 1) = true := beq_iff_eq.mpr c5
     have c5b1 : (((rd_T72 l0 a1).f0) != 1) = false := bne_eq_false_iff_eq.mpr c5
     clear c5
     obtain rfl := Option.some.inj H
     have p222 : 0 ≤ (a1 : Int) := of_decide_eq_true (by first | (with_reducible assumption) | assumption)
     have q222 : a1 < (l0.length : Int) := of_decide_eq_true (by first | (with_reducible assumption) | assumption)
     obtain ⟨ad222, A222_2, c222_2, A222_3, c222_3, e222, hx222_0, hx222_1, hx222_2, hx222_3, hx222_4, hx222_5, hl222_2, hi222_2, hl222_3, hi222_3⟩ := at_T72 HR0.out a1 p222 q222
     cases e222
     have HR222_2 := Aside0.mk hi222_2
     have HC222_2 := Aside0.mk hl222_2
     clear hi222_2 hl222_2
     have HR222_3 := Aside0.mk hi222_3
     have HC222_3 := Aside0.mk hl222_3
     clear hi222_3 hl222_3
     replace p222 := eq_true p222
     replace q222 := eq_true q222
     go_enter Tryd.func75, Tryd.ntmps75
     go_wp2
     go_ret
     exact ⟨by first | rfl | (simp [errW_none, errW_some] <;> rfl) | (simp [*, errW_none, errW_some] <;> rfl), by repeat (first | (with_reducible first | exact HB.out | apply below_alloc | apply pw_below_drewN | apply below_drew1) | exact HB.out)⟩
   · rw [if_neg c5] at H
     have c5b0 : (((rd_T72 l0 a1).f0) == 1) = false := beq_eq_false_iff_ne.mpr c5
     have c5b1 : (((rd_T72 l0 a1).f0) != 1) = true := bne_iff_ne.mpr c5
     by_cases c6 : ((rd_T72 l0 a1).f0) = 2
     · rw [if_pos c6] at H
       have c6b0 : (((rd_T72 l0 a1).f0) == 2) = true := beq_iff_eq.mpr c6
       have c6b1 : (((rd_T72 l0 a1).f0) != 2) = false := bne_eq_false_iff_eq.mpr c6
       clear c6
       replace H := Option.bind_eq_some_iff.mp H
       obtain ⟨t223, A70, H⟩ := H
       (try dsimp only at H)
       have A7 := Aside0.mk A70
       clear A70
       by_cases c8 : 1 + t223.size ≤ 9223372036854775807
       case neg => rw [if_neg c8] at H; exact absurd H (by simp)
       rw [if_pos c8] at H
       have c8b0 := eq_true c8
       have c8b1 : decide (1 + t223.size ≤ 9223372036854775807) = true := decide_eq_true c8
       try have c8b2 : (9223372036854775807 < 1 + t223.size) = False := eq_false (Nat.not_lt.2 c8)
       obtain rfl := Option.some.inj H
       have p222 : 0 ≤ (a1 : Int) := of_decide_eq_true (by first | (with_reducible assumption) | assumption)
       have q222 : a1 < (l0.length : Int) := of_decide_eq_true (by first | (with_reducible assumption) | assumption)
       obtain ⟨ad222, A222_2, c222_2, A222_3, c222_3, e222, hx222_0, hx222_1, hx222_2, hx222_3, hx222_4, hx222_5, hl222_2, hi222_2, hl222_3, hi222_3⟩ := at_T72 HR0.out a1 p222 q222
       cases e222
       have HR222_2 := Aside0.mk hi222_2
       have HC222_2 := Aside0.mk hl222_2
       clear hi222_2 hl222_2
       have HR222_3 := Aside0.mk hi222_3
       have HC222_3 := Aside0.mk hl222_3
       clear hi222_3 hl222_3
       replace p222 := eq_true p222
       replace q222 := eq_true q222
       go_enter Tryd.func75, Tryd.ntmps75
       go_wp2_with (first | ((with_reducible refine gate_callee (f := 99) rfl ?_); refine goesL_ (some 23) rfl rfl Tryd.func99 (by kernel_rfl) rfl #[.int .i64 ((rd_T72 l0 a1).f1)] rfl (by (try simp only [List.map_toArray, List.map_cons, List.map_nil]); first | done | rfl | (simp only [List.length_drop, List.length_take]; rfl)) ?_; (with_reducible refine (spec_l7Flags.calls k ((rd_T72 l0 a1).f1) t223 _ A7.out).mono ?_); rintro e w9 ⟨rfl, hb⟩; refine ⟨_, rfl, ?_⟩; have n0_ := Aside0.mk (below_step (HB_up HB.out) hb); clear HB; have HB := n0_; clear n0_; (try clear hb); (try clear hb2); (try clear hk); (try clear hi)))
       go_ret
       exact ⟨by first | rfl | (simp [errW_none, errW_some] <;> rfl) | (simp [*, errW_none, errW_some] <;> rfl), by repeat (first | (with_reducible first | exact HB.out | apply below_alloc | apply pw_below_drewN | apply below_drew1) | exact HB.out)⟩
     · rw [if_neg c6] at H
       have c6b0 : (((rd_T72 l0 a1).f0) == 2) = false := beq_eq_false_iff_ne.mpr c6
       have c6b1 : (((rd_T72 l0 a1).f0) != 2) = true := bne_iff_ne.mpr c6
       by_cases c10 : ((rd_T72 l0 a1).f0) = 6
       · rw [if_pos c10] at H
         have c10b0 : (((rd_T72 l0 a1).f0) == 6) = true := beq_iff_eq.mpr c10
         have c10b1 : (((rd_T72 l0 a1).f0) != 6) = false := bne_eq_false_iff_eq.mpr c10
         clear c10
         replace H := Option.bind_eq_some_iff.mp H
         obtain ⟨⟨t224, t225⟩, A110, H⟩ := H
         (try dsimp only at H)
         have A11 := Aside0.mk A110
         clear A110
         by_cases c12 : 1 + (strOfNums t224).size ≤ 9223372036854775807
         case neg => rw [if_neg c12] at H; exact absurd H (by simp)
         rw [if_pos c12] at H
         have c12b0 := eq_true c12
         have c12b1 : decide (1 + (strOfNums t224).size ≤ 9223372036854775807) = true := decide_eq_true c12
         try have c12b2 : (9223372036854775807 < 1 + (strOfNums t224).size) = False := eq_false (Nat.not_lt.2 c12)
         obtain rfl := Option.some.inj H
         have p222 : 0 ≤ (a1 : Int) := of_decide_eq_true (by first | (with_reducible assumption) | assumption)
         have q222 : a1 < (l0.length : Int) := of_decide_eq_true (by first | (with_reducible assumption) | assumption)
         obtain ⟨ad222, A222_2, c222_2, A222_3, c222_3, e222, hx222_0, hx222_1, hx222_2, hx222_3, hx222_4, hx222_5, hl222_2, hi222_2, hl222_3, hi222_3⟩ := at_T72 HR0.out a1 p222 q222
         cases e222
         have HR222_2 := Aside0.mk hi222_2
         have HC222_2 := Aside0.mk hl222_2
         clear hi222_2 hl222_2
         have HR222_3 := Aside0.mk hi222_3
         have HC222_3 := Aside0.mk hl222_3
         clear hi222_3 hl222_3
         replace p222 := eq_true p222
         replace q222 := eq_true q222
         go_enter Tryd.func75, Tryd.ntmps75
         go_wp2_with (first | ((with_reducible refine gate_callee (f := 100) rfl ?_); refine goesL_ (some 33) rfl rfl Tryd.func100 (by kernel_rfl) rfl #[.int .i64 4, .slice A222_2 ((rd_T72 l0 a1).f2).length c222_2] rfl (by (try simp only [List.map_toArray, List.map_cons, List.map_nil]); first | done | rfl | (simp only [List.length_drop, List.length_take]; rfl)) ?_; (with_reducible refine (spec_l2Encode.calls k 4 _ _ ((rd_T72 l0 a1).f2) t224 t225 _ ?side1 ?side2 A11.out).mono ?_); (case side1 => exact C_up HR222_2.out); (case side2 => exact HC222_2.out); rintro e w13 ⟨v226, rfl, ho0, hb⟩; refine ⟨_, rfl, ?_⟩; have n0_ := Aside0.mk (Kd.R_lower ho0 (below_size (HB_up HB.out))); have n1_ := Aside0.mk (below_step (HB_up HB.out) hb); clear HB; have HO227 := n0_; have HB := n1_; clear n0_ n1_; (try clear hb); (try clear hb2); (try clear hk); (try clear hi); (try clear ho0); have hcv14 := own_string (P := Tryd.prog) Tryd.underlying45 Tryd.underlying5 Tryd.underlying9 (Kd.own_of_R HO227.out)))
         go_ret
         exact ⟨by first | rfl | (simp [errW_none, errW_some] <;> rfl) | (simp [*, errW_none, errW_some] <;> rfl), by repeat (first | (with_reducible first | exact HB.out | apply below_alloc | apply pw_below_drewN | apply below_drew1) | exact HB.out)⟩
       · rw [if_neg c10] at H
         have c10b0 : (((rd_T72 l0 a1).f0) == 6) = false := beq_eq_false_iff_ne.mpr c10
         have c10b1 : (((rd_T72 l0 a1).f0) != 6) = true := bne_iff_ne.mpr c10
         by_cases c15 : ((rd_T72 l0 a1).f0) = 7
         · rw [if_pos c15] at H
           have c15b0 : (((rd_T72 l0 a1).f0) == 7) = true := beq_iff_eq.mpr c15
           have c15b1 : (((rd_T72 l0 a1).f0) != 7) = false := bne_eq_false_iff_eq.mpr c15
           clear c15
           replace H := Option.bind_eq_some_iff.mp H
           obtain ⟨⟨t228, t229⟩, A160, H⟩ := H
           (try dsimp only at H)
           have A16 := Aside0.mk A160
           clear A160
           by_cases c17 : 1 + (strOfNums t228).size ≤ 9223372036854775807
           case neg => rw [if_neg c17] at H; exact absurd H (by simp)
           rw [if_pos c17] at H
           have c17b0 := eq_true c17
           have c17b1 : decide (1 + (strOfNums t228).size ≤ 9223372036854775807) = true := decide_eq_true c17
           try have c17b2 : (9223372036854775807 < 1 + (strOfNums t228).size) = False := eq_false (Nat.not_lt.2 c17)
           obtain rfl := Option.some.inj H
           have p222 : 0 ≤ (a1 : Int) := of_decide_eq_true (by first | (with_reducible assumption) | assumption)
           have q222 : a1 < (l0.length : Int) := of_decide_eq_true (by first | (with_reducible assumption) | assumption)
           obtain ⟨ad222, A222_2, c222_2, A222_3, c222_3, e222, hx222_0, hx222_1, hx222_2, hx222_3, hx222_4, hx222_5, hl222_2, hi222_2, hl222_3, hi222_3⟩ := at_T72 HR0.out a1 p222 q222
           cases e222
           have HR222_2 := Aside0.mk hi222_2
           have HC222_2 := Aside0.mk hl222_2
           clear hi222_2 hl222_2
           have HR222_3 := Aside0.mk hi222_3
           have HC222_3 := Aside0.mk hl222_3
           clear hi222_3 hl222_3
           replace p222 := eq_true p222
           replace q222 := eq_true q222
           go_enter Tryd.func75, Tryd.ntmps75
           go_wp2_with (first | ((with_reducible refine gate_callee (f := 100) rfl ?_); refine goesL_ (some 33) rfl rfl Tryd.func100 (by kernel_rfl) rfl #[.int .i64 4, .slice A222_2 ((rd_T72 l0 a1).f2).length c222_2] rfl (by (try simp only [List.map_toArray, List.map_cons, List.map_nil]); first | done | rfl | (simp only [List.length_drop, List.length_take]; rfl)) ?_; (with_reducible refine (spec_l2Encode.calls k 4 _ _ ((rd_T72 l0 a1).f2) t228 t229 _ ?side1 ?side2 A16.out).mono ?_); (case side1 => exact C_up HR222_2.out); (case side2 => exact HC222_2.out); rintro e w18 ⟨v230, rfl, ho0, hb⟩; refine ⟨_, rfl, ?_⟩; have n0_ := Aside0.mk (Kd.R_lower ho0 (below_size (HB_up HB.out))); have n1_ := Aside0.mk (below_step (HB_up HB.out) hb); clear HB; have HO231 := n0_; have HB := n1_; clear n0_ n1_; (try clear hb); (try clear hb2); (try clear hk); (try clear hi); (try clear ho0); have hcv19 := own_string (P := Tryd.prog) Tryd.underlying45 Tryd.underlying5 Tryd.underlying9 (Kd.own_of_R HO231.out)))
           go_ret
           exact ⟨by first | rfl | (simp [errW_none, errW_some] <;> rfl) | (simp [*, errW_none, errW_some] <;> rfl), by repeat (first | (with_reducible first | exact HB.out | apply below_alloc | apply pw_below_drewN | apply below_drew1) | exact HB.out)⟩
         · rw [if_neg c15] at H
           have c15b0 : (((rd_T72 l0 a1).f0) == 7) = false := beq_eq_false_iff_ne.mpr c15
           have c15b1 : (((rd_T72 l0 a1).f0) != 7) = true := bne_iff_ne.mpr c15
           by_cases c20 : ((rd_T72 l0 a1).f0) = 8
           · rw [if_pos c20] at H
             have c20b0 : (((rd_T72 l0 a1).f0) == 8) = true := beq_iff_eq.mpr c20
             have c20b1 : (((rd_T72 l0 a1).f0) != 8) = false := bne_eq_false_iff_eq.mpr c20
             clear c20
             replace H := Option.bind_eq_some_iff.mp H
             obtain ⟨t232, A210, H⟩ := H
             (try dsimp only at H)
             have A21 := Aside0.mk A210
             clear A210
             by_cases c22 : 1 + t232.size ≤ 9223372036854775807
             case neg => rw [if_neg c22] at H; exact absurd H (by simp)
             rw [if_pos c22] at H
             have c22b0 := eq_true c22
             have c22b1 : decide (1 + t232.size ≤ 9223372036854775807) = true := decide_eq_true c22
             try have c22b2 : (9223372036854775807 < 1 + t232.size) = False := eq_false (Nat.not_lt.2 c22)
             obtain rfl := Option.some.inj H
             have p222 : 0 ≤ (a1 : Int) := of_decide_eq_true (by first | (with_reducible assumption) | assumption)
             have q222 : a1 < (l0.length : Int) := of_decide_eq_true (by first | (with_reducible assumption) | assumption)
             obtain ⟨ad222, A222_2, c222_2, A222_3, c222_3, e222, hx222_0, hx222_1, hx222_2, hx222_3, hx222_4, hx222_5, hl222_2, hi222_2, hl222_3, hi222_3⟩ := at_T72 HR0.out a1 p222 q222
             cases e222
             have HR222_2 := Aside0.mk hi222_2
             have HC222_2 := Aside0.mk hl222_2
             clear hi222_2 hl222_2
             have HR222_3 := Aside0.mk hi222_3
             have HC222_3 := Aside0.mk hl222_3
             clear hi222_3 hl222_3
             replace p222 := eq_true p222
             replace q222 := eq_true q222
             go_enter Tryd.func75, Tryd.ntmps75
             go_wp2_with (first | ((with_reducible refine gate_callee (f := 33) rfl ?_); refine goesL_ (some 45) rfl rfl Tryd.func33 (by kernel_rfl) rfl #[.slice A222_3 ((rd_T72 l0 a1).f3).length c222_3] rfl (by (try simp only [List.map_toArray, List.map_cons, List.map_nil]); first | done | rfl | (simp only [List.length_drop, List.length_take]; rfl)) ?_; (with_reducible refine (spec_l11Text.calls k _ _ ((rd_T72 l0 a1).f3) t232 _ ?side1 ?side2 A21.out).mono ?_); (case side1 => exact C_up HR222_3.out); (case side2 => exact HC222_3.out); rintro e w23 ⟨rfl, hb⟩; refine ⟨_, rfl, ?_⟩; have n0_ := Aside0.mk (below_step (HB_up HB.out) hb); clear HB; have HB := n0_; clear n0_; (try clear hb); (try clear hb2); (try clear hk); (try clear hi)))
             go_ret
             exact ⟨by first | rfl | (simp [errW_none, errW_some] <;> rfl) | (simp [*, errW_none, errW_some] <;> rfl), by repeat (first | (with_reducible first | exact HB.out | apply below_alloc | apply pw_below_drewN | apply below_drew1) | exact HB.out)⟩
           · rw [if_neg c20] at H
             have c20b0 : (((rd_T72 l0 a1).f0) == 8) = false := beq_eq_false_iff_ne.mpr c20
             have c20b1 : (((rd_T72 l0 a1).f0) != 8) = true := bne_iff_ne.mpr c20
             by_cases c24 : ((rd_T72 l0 a1).f0) = 9
             · rw [if_pos c24] at H
               have c24b0 : (((rd_T72 l0 a1).f0) == 9) = true := beq_iff_eq.mpr c24
               have c24b1 : (((rd_T72 l0 a1).f0) != 9) = false := bne_eq_false_iff_eq.mpr c24
               clear c24
               replace H := Option.bind_eq_some_iff.mp H
               obtain ⟨t233, A250, H⟩ := H
               (try dsimp only at H)
               have A25 := Aside0.mk A250
               clear A250
               by_cases c26 : 1 + t233.size ≤ 9223372036854775807
               case neg => rw [if_neg c26] at H; exact absurd H (by simp)
               rw [if_pos c26] at H
               have c26b0 := eq_true c26
               have c26b1 : decide (1 + t233.size ≤ 9223372036854775807) = true := decide_eq_true c26
               try have c26b2 : (9223372036854775807 < 1 + t233.size) = False := eq_false (Nat.not_lt.2 c26)
               obtain rfl := Option.some.inj H
               have p222 : 0 ≤ (a1 : Int) := of_decide_eq_true (by first | (with_reducible assumption) | assumption)
               have q222 : a1 < (l0.length : Int) := of_decide_eq_true (by first | (with_reducible assumption) | assumption)
               obtain ⟨ad222, A222_2, c222_2, A222_3, c222_3, e222, hx222_0, hx222_1, hx222_2, hx222_3, hx222_4, hx222_5, hl222_2, hi222_2, hl222_3, hi222_3⟩ := at_T72 HR0.out a1 p222 q222
               cases e222
               have HR222_2 := Aside0.mk hi222_2
               have HC222_2 := Aside0.mk hl222_2
               clear hi222_2 hl222_2
               have HR222_3 := Aside0.mk hi222_3
               have HC222_3 := Aside0.mk hl222_3
               clear hi222_3 hl222_3
               replace p222 := eq_true p222
               replace q222 := eq_true q222
               go_enter Tryd.func75, Tryd.ntmps75
               go_wp2_with (first | ((with_reducible refine gate_callee (f := 43) rfl ?_); refine goesL_ (some 54) rfl rfl Tryd.func43 (by kernel_rfl) rfl #[.slice (some ad222) l0.length c0, .int .i64 ((rd_T72 l0 a1).f4)] rfl (by (try simp only [List.map_toArray, List.map_cons, List.map_nil]); first | done | rfl | (simp only [List.length_drop, List.length_take]; rfl)) ?_; (with_reducible refine (spec_l12Text.callsOf (spec_l12Tail.f k) (ih k (by omega)) _ _ l0 ((rd_T72 l0 a1).f4) t233 _ ?side1 ?side2 A25.out).mono ?_); (case side1 => exact C_up HR0.out); (case side2 => exact HC0.out); rintro e w27 ⟨rfl, hb⟩; refine ⟨_, rfl, ?_⟩; have n0_ := Aside0.mk (below_step (HB_up HB.out) hb); clear HB; have HB := n0_; clear n0_; (try clear hb); (try clear hb2); (try clear hk); (try clear hi)))
               go_ret
               exact ⟨by first | rfl | (simp [errW_none, errW_some] <;> rfl) | (simp [*, errW_none, errW_some] <;> rfl), by repeat (first | (with_reducible first | exact HB.out | apply below_alloc | apply pw_below_drewN | apply below_drew1) | exact HB.out)⟩
             · rw [if_neg c24] at H
               have c24b0 : (((rd_T72 l0 a1).f0) == 9) = false := beq_eq_false_iff_ne.mpr c24
               have c24b1 : (((rd_T72 l0 a1).f0) != 9) = true := bne_iff_ne.mpr c24
               by_cases c28 : ((rd_T72 l0 a1).f0) = 10
               · rw [if_pos c28] at H
                 have c28b0 : (((rd_T72 l0 a1).f0) == 10) = true := beq_iff_eq.mpr c28
                 have c28b1 : (((rd_T72 l0 a1).f0) != 10) = false := bne_eq_false_iff_eq.mpr c28
                 clear c28
                 replace H := Option.bind_eq_some_iff.mp H
                 obtain ⟨t235, A290, H⟩ := H
                 (try dsimp only at H)
                 have A29 := Aside0.mk A290
                 clear A290
                 by_cases c30 : 1 + t235.size ≤ 9223372036854775807
                 case neg => rw [if_neg c30] at H; exact absurd H (by simp)
                 rw [if_pos c30] at H
                 have c30b0 := eq_true c30
                 have c30b1 : decide (1 + t235.size ≤ 9223372036854775807) = true := decide_eq_true c30
                 try have c30b2 : (9223372036854775807 < 1 + t235.size) = False := eq_false (Nat.not_lt.2 c30)
                 by_cases c31 : ((⟨#[32]⟩ : ByteArray) ++ t235).size + 1 ≤ 9223372036854775807
                 case neg => rw [if_neg c31] at H; exact absurd H (by simp)
                 rw [if_pos c31] at H
                 have c31b0 := eq_true c31
                 have c31b1 : decide (((⟨#[32]⟩ : ByteArray) ++ t235).size + 1 ≤ 9223372036854775807) = true := decide_eq_true c31
                 try have c31b2 : (9223372036854775807 < ((⟨#[32]⟩ : ByteArray) ++ t235).size + 1) = False := eq_false (Nat.not_lt.2 c31)
                 (try (have c31b3 := c31b2; simp only [ByteArray.size_append] at c31b3))
                 (try (have c31b4 : (9223372036854775807 < 1 + t235.size + 1) = False := eq_false (by have h_ := c31; simp only [ByteArray.size_append] at h_; have e0_ : (⟨#[32]⟩ : ByteArray).size = 1 := rfl; omega)))
                 replace H := Option.bind_eq_some_iff.mp H
                 obtain ⟨t237, A320, H⟩ := H
                 (try dsimp only at H)
                 have A32 := Aside0.mk A320
                 clear A320
                 by_cases c33 : (((⟨#[32]⟩ : ByteArray) ++ t235) ++ (⟨#[32]⟩ : ByteArray)).size + t237.size ≤ 9223372036854775807
                 case neg => rw [if_neg c33] at H; exact absurd H (by simp)
                 rw [if_pos c33] at H
                 have c33b0 := eq_true c33
                 have c33b1 : decide ((((⟨#[32]⟩ : ByteArray) ++ t235) ++ (⟨#[32]⟩ : ByteArray)).size + t237.size ≤ 9223372036854775807) = true := decide_eq_true c33
                 try have c33b2 : (9223372036854775807 < (((⟨#[32]⟩ : ByteArray) ++ t235) ++ (⟨#[32]⟩ : ByteArray)).size + t237.size) = False := eq_false (Nat.not_lt.2 c33)
                 (try (have c33b3 := c33b2; simp only [ByteArray.size_append] at c33b3))
                 (try (have c33b4 : (9223372036854775807 < 1 + t235.size + 1 + t237.size) = False := eq_false (by have h_ := c33; simp only [ByteArray.size_append] at h_; have e0_ : (⟨#[32]⟩ : ByteArray).size = 1 := rfl; omega)))
                 obtain rfl := Option.some.inj H
                 have p222 : 0 ≤ (a1 : Int) := of_decide_eq_true (by first | (with_reducible assumption) | assumption)
                 have q222 : a1 < (l0.length : Int) := of_decide_eq_true (by first | (with_reducible assumption) | assumption)
                 obtain ⟨ad222, A222_2, c222_2, A222_3, c222_3, e222, hx222_0, hx222_1, hx222_2, hx222_3, hx222_4, hx222_5, hl222_2, hi222_2, hl222_3, hi222_3⟩ := at_T72 HR0.out a1 p222 q222
                 cases e222
                 have HR222_2 := Aside0.mk hi222_2
                 have HC222_2 := Aside0.mk hl222_2
                 clear hi222_2 hl222_2
                 have HR222_3 := Aside0.mk hi222_3
                 have HC222_3 := Aside0.mk hl222_3
                 clear hi222_3 hl222_3
                 replace p222 := eq_true p222
                 replace q222 := eq_true q222
                 go_enter Tryd.func75, Tryd.ntmps75
                 try go_wp2
                 have n0_ := Aside0.mk (below_drew1 HB.out)
                 clear HB
                 have HB := n0_
                 clear n0_
                 have p234 : 0 ≤ (a1 : Int) := of_decide_eq_true (by first | (with_reducible assumption) | assumption)
                 have q234 : a1 < (l0.length : Int) := of_decide_eq_true (by first | (with_reducible assumption) | assumption)
                 obtain ⟨ad234, A234_2, c234_2, A234_3, c234_3, e234, hx234_0, hx234_1, hx234_2, hx234_3, hx234_4, hx234_5, hl234_2, hi234_2, hl234_3, hi234_3⟩ := at_T72 HR0.out a1 p234 q234
                 have hw234_5 := hx234_5
                 have hw234_4 := hx234_4
                 have hw234_3 := hx234_3
                 have hw234_2 := hx234_2
                 have hw234_1 := hx234_1
                 have hw234_0 := hx234_0
                 obtain rfl : ad222 = ad234 := (by injection e234)
                 replace hx234_0 := ck_ HB.out hx234_0
                 replace hx234_1 := ck_ HB.out hx234_1
                 replace hx234_2 := ck_ HB.out hx234_2
                 replace hx234_3 := ck_ HB.out hx234_3
                 replace hx234_4 := ck_ HB.out hx234_4
                 replace hx234_5 := ck_ HB.out hx234_5
                 have HR234_2 := Aside0.mk hi234_2
                 have HC234_2 := Aside0.mk hl234_2
                 clear hi234_2 hl234_2
                 have HR234_3 := Aside0.mk hi234_3
                 have HC234_3 := Aside0.mk hl234_3
                 clear hi234_3 hl234_3
                 replace p234 := eq_true p234
                 replace q234 := eq_true q234
                 have p236 : 0 ≤ (a1 : Int) := of_decide_eq_true (by first | (with_reducible assumption) | assumption)
                 have q236 : a1 < (l0.length : Int) := of_decide_eq_true (by first | (with_reducible assumption) | assumption)
                 obtain ⟨ad236, A236_2, c236_2, A236_3, c236_3, e236, hx236_0, hx236_1, hx236_2, hx236_3, hx236_4, hx236_5, hl236_2, hi236_2, hl236_3, hi236_3⟩ := at_T72 HR0.out a1 p236 q236
                 have hw236_5 := hx236_5
                 have hw236_4 := hx236_4
                 have hw236_3 := hx236_3
                 have hw236_2 := hx236_2
                 have hw236_1 := hx236_1
                 have hw236_0 := hx236_0
                 obtain rfl : ad222 = ad236 := (by injection e236)
                 replace hx236_0 := ck_ HB.out hx236_0
                 replace hx236_1 := ck_ HB.out hx236_1
                 replace hx236_2 := ck_ HB.out hx236_2
                 replace hx236_3 := ck_ HB.out hx236_3
                 replace hx236_4 := ck_ HB.out hx236_4
                 replace hx236_5 := ck_ HB.out hx236_5
                 have HR236_2 := Aside0.mk hi236_2
                 have HC236_2 := Aside0.mk hl236_2
                 clear hi236_2 hl236_2
                 have HR236_3 := Aside0.mk hi236_3
                 have HC236_3 := Aside0.mk hl236_3
                 clear hi236_3 hl236_3
                 replace p236 := eq_true p236
                 replace q236 := eq_true q236
                 have ea_ := Option.some.inj (hx234_2.symm.trans hx236_2)
                 injection ea_ with ea_ en_ ec_
                 subst ea_
                 subst ec_
                 clear en_
                 have ea_ := Option.some.inj (hx234_3.symm.trans hx236_3)
                 injection ea_ with ea_ en_ ec_
                 subst ea_
                 subst ec_
                 clear en_
                 refine start_ (n := 16) (S := fun w' => w'.cell? (ad222.add ((a1).toNat * 6)) = some (.int .i64 ((rd_T72 l0 a1).f0)) ∧ w'.cell? ⟨(ad222.add ((a1).toNat * 6)).block, (ad222.add ((a1).toNat * 6)).off + 1, none⟩ = some (.int .i64 ((rd_T72 l0 a1).f1)) ∧ w'.cell? ⟨(ad222.add ((a1).toNat * 6)).block, (ad222.add ((a1).toNat * 6)).off + 2, none⟩ = some (.slice A234_2 ((rd_T72 l0 a1).f2).length c234_2) ∧ w'.cell? ⟨(ad222.add ((a1).toNat * 6)).block, (ad222.add ((a1).toNat * 6)).off + 3, none⟩ = some (.slice A234_3 ((rd_T72 l0 a1).f3).length c234_3) ∧ w'.cell? ⟨(ad222.add ((a1).toNat * 6)).block, (ad222.add ((a1).toNat * 6)).off + 4, none⟩ = some (.int .i64 ((rd_T72 l0 a1).f4)) ∧ w'.cell? ⟨(ad222.add ((a1).toNat * 6)).block, (ad222.add ((a1).toNat * 6)).off + 5, none⟩ = some (.int .i64 ((rd_T72 l0 a1).f5)) ∧ w'.cell? (ad222.add ((a1).toNat * 6)) = some (.int .i64 ((rd_T72 l0 a1).f0)) ∧ w'.cell? ⟨(ad222.add ((a1).toNat * 6)).block, (ad222.add ((a1).toNat * 6)).off + 1, none⟩ = some (.int .i64 ((rd_T72 l0 a1).f1)) ∧ w'.cell? ⟨(ad222.add ((a1).toNat * 6)).block, (ad222.add ((a1).toNat * 6)).off + 2, none⟩ = some (.slice A234_2 ((rd_T72 l0 a1).f2).length c234_2) ∧ w'.cell? ⟨(ad222.add ((a1).toNat * 6)).block, (ad222.add ((a1).toNat * 6)).off + 3, none⟩ = some (.slice A234_3 ((rd_T72 l0 a1).f3).length c234_3) ∧ w'.cell? ⟨(ad222.add ((a1).toNat * 6)).block, (ad222.add ((a1).toNat * 6)).off + 4, none⟩ = some (.int .i64 ((rd_T72 l0 a1).f4)) ∧ w'.cell? ⟨(ad222.add ((a1).toNat * 6)).block, (ad222.add ((a1).toNat * 6)).off + 5, none⟩ = some (.int .i64 ((rd_T72 l0 a1).f5))) (ds := []) #[false, false, false, false, false, false, false, false, false, false, false, false, false, false, false, false] (by kernel_rfl) rfl rfl ⟨(ck_ HB.out hw234_0), (ck_ HB.out hw234_1), (ck_ HB.out hw234_2), (ck_ HB.out hw234_3), (ck_ HB.out hw234_4), (ck_ HB.out hw234_5), (ck_ HB.out hw236_0), (ck_ HB.out hw236_1), (ck_ HB.out hw236_2), (ck_ HB.out hw236_3), (ck_ HB.out hw236_4), (ck_ HB.out hw236_5)⟩ (fun hHeld => ?_); refine with_tabW spec_l12Tail.tab17 spec_l12Tail.bits17 (fun HT_ HW_ => ?_)
                 generalize w.drew = w34 at HB HR234_2 HR234_3 HR236_2 HR236_3 hx234_0 hx234_1 hx234_2 hx234_3 hx234_4 hx234_5 hx236_0 hx236_1 hx236_2 hx236_3 hx236_4 hx236_5 hHeld ⊢
                 refine pu_ (i := 0) (N := some 59) (v := ?_) (a' := ?_) rfl rfl (any_of HT_.out (by kernel_rfl)) (fun _ _ _ h => h) (Or.inl ⟨by rfl, ?_⟩) ?_ ?_; rotate_left
                 · intro w'; go_simp; all_goals (first | with_reducible rfl | (simp [Instr.field, go_sem]; rfl))
                 rotate_left
                 · simp only [Act.put, List.setIfInBounds_toArray, List.set_cons_zero, List.set_cons_succ, i64_w, i32_w]; rfl
                 refine pu_ (i := 1) (N := some 60) (v := ?_) (a' := ?_) rfl rfl (any_of HT_.out (by kernel_rfl)) (fun _ _ _ h => h) (Or.inl ⟨by rfl, ?_⟩) ?_ ?_; rotate_left
                 · intro w'; go_simp; all_goals (first | with_reducible rfl | (simp [Instr.field, go_sem]; rfl))
                 rotate_left
                 · simp only [Act.put, List.setIfInBounds_toArray, List.set_cons_zero, List.set_cons_succ, i64_w, i32_w]; rfl
                 refine pu_ (i := 2) (N := some 61) (v := ?_) (a' := ?_) rfl rfl (any_of HT_.out (by kernel_rfl)) (fun _ _ _ h => h) (Or.inl ⟨by rfl, ?_⟩) ?_ ?_; rotate_left
                 · intro w'; go_simp; all_goals (first | with_reducible rfl | (simp [Instr.field, go_sem]; rfl))
                 rotate_left
                 · simp only [Act.put, List.setIfInBounds_toArray, List.set_cons_zero, List.set_cons_succ, i64_w, i32_w]; rfl
                 refine pu_ (i := 3) (N := some 62) (v := ?_) (a' := ?_) rfl rfl (any_of HT_.out (by kernel_rfl)) (fun _ _ _ h => h) (Or.inl ⟨by rfl, ?_⟩) ?_ ?_; rotate_left
                 · intro w'; go_simp; all_goals (first | with_reducible rfl | (simp [Instr.field, go_sem]; rfl))
                 rotate_left
                 · simp only [Act.put, List.setIfInBounds_toArray, List.set_cons_zero, List.set_cons_succ, i64_w, i32_w]; rfl
                 refine pu_ (i := 8) (N := some 67) (v := ?_) (a' := ?_) rfl rfl (any_of HT_.out (by kernel_rfl)) (fun _ _ _ h => h) (Or.inl ⟨by rfl, ?_⟩) ?_ ?_; rotate_left
                 · intro w'; go_simp; all_goals (first | with_reducible rfl | (simp [Instr.field, go_sem]; rfl))
                 rotate_left
                 · simp only [Act.put, List.setIfInBounds_toArray, List.set_cons_zero, List.set_cons_succ, i64_w, i32_w]; rfl
                 refine pu_ (i := 9) (N := some 68) (v := ?_) (a' := ?_) rfl rfl (any_of HT_.out (by kernel_rfl)) (fun _ _ _ h => h) (Or.inl ⟨by rfl, ?_⟩) ?_ ?_; rotate_left
                 · intro w'; go_simp; all_goals (first | with_reducible rfl | (simp [Instr.field, go_sem]; rfl))
                 rotate_left
                 · simp only [Act.put, List.setIfInBounds_toArray, List.set_cons_zero, List.set_cons_succ, i64_w, i32_w]; rfl
                 refine pu_ (i := 10) (N := some 69) (v := ?_) (a' := ?_) rfl rfl (any_of HT_.out (by kernel_rfl)) (fun _ _ _ h => h) (Or.inl ⟨by rfl, ?_⟩) ?_ ?_; rotate_left
                 · intro w'; go_simp; all_goals (first | with_reducible rfl | (simp [Instr.field, go_sem]; rfl))
                 rotate_left
                 · simp only [Act.put, List.setIfInBounds_toArray, List.set_cons_zero, List.set_cons_succ, i64_w, i32_w]; rfl
                 refine pu_ (i := 11) (N := some 70) (v := ?_) (a' := ?_) rfl rfl (any_of HT_.out (by kernel_rfl)) (fun _ _ _ h => h) (Or.inl ⟨by rfl, ?_⟩) ?_ ?_; rotate_left
                 · intro w'; go_simp; all_goals (first | with_reducible rfl | (simp [Instr.field, go_sem]; rfl))
                 rotate_left
                 · simp only [Act.put, List.setIfInBounds_toArray, List.set_cons_zero, List.set_cons_succ, i64_w, i32_w]; rfl
                 refine ta_ (i := 4) (N := some 63) (v := ?_) (a' := ?_) rfl rfl (take_ofW HT_.out HW_.out (by kernel_rfl)) (fun _ _ _ h => h) (Or.inl ⟨by rfl, ?_⟩) hHeld ?_ ?_; rotate_left
                 · rintro w' ⟨s0, s1, s2, s3, s4, s5, s6, s7, s8, s9, s10, s11⟩; go_simp; all_goals (first | with_reducible rfl | (simp [Instr.field, go_sem]; rfl))
                 rotate_left
                 · simp only [Act.put, List.setIfInBounds_toArray, List.set_cons_zero, List.set_cons_succ, i64_w, i32_w]; rfl
                 refine ta_ (i := 12) (N := some 71) (v := ?_) (a' := ?_) rfl rfl (take_ofW HT_.out HW_.out (by kernel_rfl)) (fun _ _ _ h => h) (Or.inl ⟨by rfl, ?_⟩) hHeld ?_ ?_; rotate_left
                 · rintro w' ⟨s0, s1, s2, s3, s4, s5, s6, s7, s8, s9, s10, s11⟩; go_simp; all_goals (first | with_reducible rfl | (simp [Instr.field, go_sem]; rfl))
                 rotate_left
                 · simp only [Act.put, List.setIfInBounds_toArray, List.set_cons_zero, List.set_cons_succ, i64_w, i32_w]; rfl
                 refine on_ (i := 5) (N := some 64) rfl rfl (one_of HT_.out (by kernel_rfl)) (by decide) (fun K hK => ?_)
                 refine goes_ Tryd.func43 (by kernel_rfl) rfl #[.slice (some ad222) l0.length c0, .int .i64 ((rd_T72 l0 a1).f4)] (by rfl) rfl rfl (by (try simp only [List.map_toArray, List.map_cons, List.map_nil]); first | done | rfl | (simp only [List.length_drop, List.length_take]; rfl)) ?_
                 with_reducible refine (spec_l12Text.callsOf (spec_l12Tail.f k) (ih k (by omega)) _ _ l0 ((rd_T72 l0 a1).f4) t235 _ ?side1 ?side2 A29.out).mono ?_
                 (case side1 => exact C_up (Kd.C_below HR0.out HB.out))
                 (case side2 => exact HC0.out)
                 rintro e w35 ⟨rfl, hb⟩
                 refine ⟨_, rfl, ?_⟩
                 have n0_ := Aside0.mk (below_step (HB_up HB.out) hb)
                 clear HB
                 have HB := n0_
                 clear n0_
                 (try clear hb)
                 (try clear hb2)
                 (try clear hk)
                 (try clear hi)
                 refine hK.out _ _ ⟨(ck_ HB.out hw234_0), (ck_ HB.out hw234_1), (ck_ HB.out hw234_2), (ck_ HB.out hw234_3), (ck_ HB.out hw234_4), (ck_ HB.out hw234_5), (ck_ HB.out hw236_0), (ck_ HB.out hw236_1), (ck_ HB.out hw236_2), (ck_ HB.out hw236_3), (ck_ HB.out hw236_4), (ck_ HB.out hw236_5)⟩ (fun hHeld => ?_)
                 clear hK K
                 refine norm_ (a' := ?_) ?_ ?_
                 rotate_left
                 · show Act.put _ (some 64) _ = _
                   simp only [Act.put, List.setIfInBounds_toArray, List.set_cons_zero, List.set_cons_succ, i64_w, i32_w]
                   rfl
                 refine pu_ (i := 6) (N := some 65) (v := ?_) (a' := ?_) rfl rfl (any_of HT_.out (by kernel_rfl)) (fun _ _ _ h => h) (Or.inl ⟨by rfl, ?_⟩) ?_ ?_; rotate_left
                 · intro w'; go_simp; all_goals (first | with_reducible rfl | (simp [Instr.field, go_sem]; rfl))
                 rotate_left
                 · simp only [Act.put, List.setIfInBounds_toArray, List.set_cons_zero, List.set_cons_succ, i64_w, i32_w]; rfl
                 refine pu_ (i := 7) (N := some 66) (v := ?_) (a' := ?_) rfl rfl (any_of HT_.out (by kernel_rfl)) (fun _ _ _ h => h) (Or.inl ⟨by rfl, ?_⟩) ?_ ?_; rotate_left
                 · intro w'; go_simp; all_goals (first | with_reducible rfl | (simp [Instr.field, go_sem]; rfl))
                 rotate_left
                 · simp only [Act.put, List.setIfInBounds_toArray, List.set_cons_zero, List.set_cons_succ, i64_w, i32_w]; rfl
                 refine on_ (i := 13) (N := some 72) rfl rfl (one_of HT_.out (by kernel_rfl)) (by decide) (fun K hK => ?_)
                 refine goes_ Tryd.func43 (by kernel_rfl) rfl #[.slice (some ad222) l0.length c0, .int .i64 ((rd_T72 l0 a1).f5)] (by rfl) rfl rfl (by (try simp only [List.map_toArray, List.map_cons, List.map_nil]); first | done | rfl | (simp only [List.length_drop, List.length_take]; rfl)) ?_
                 with_reducible refine (spec_l12Text.callsOf (spec_l12Tail.f k) (ih k (by omega)) _ _ l0 ((rd_T72 l0 a1).f5) t237 _ ?side1 ?side2 A32.out).mono ?_
                 (case side1 => exact C_up (Kd.C_below HR0.out HB.out))
                 (case side2 => exact HC0.out)
                 rintro e w36 ⟨rfl, hb⟩
                 refine ⟨_, rfl, ?_⟩
                 have n0_ := Aside0.mk (below_step (HB_up HB.out) hb)
                 clear HB
                 have HB := n0_
                 clear n0_
                 (try clear hb)
                 (try clear hb2)
                 (try clear hk)
                 (try clear hi)
                 refine hK.out _ _ ⟨(ck_ HB.out hw234_0), (ck_ HB.out hw234_1), (ck_ HB.out hw234_2), (ck_ HB.out hw234_3), (ck_ HB.out hw234_4), (ck_ HB.out hw234_5), (ck_ HB.out hw236_0), (ck_ HB.out hw236_1), (ck_ HB.out hw236_2), (ck_ HB.out hw236_3), (ck_ HB.out hw236_4), (ck_ HB.out hw236_5)⟩ (fun hHeld => ?_)
                 clear hK K
                 refine norm_ (a' := ?_) ?_ ?_
                 rotate_left
                 · show Act.put _ (some 72) _ = _
                   simp only [Act.put, List.setIfInBounds_toArray, List.set_cons_zero, List.set_cons_succ, i64_w, i32_w]
                   rfl
                 refine pu_ (i := 14) (N := some 73) (v := ?_) (a' := ?_) rfl rfl (any_of HT_.out (by kernel_rfl)) (fun _ _ _ h => h) (Or.inl ⟨by rfl, ?_⟩) ?_ ?_; rotate_left
                 · intro w'; go_simp; all_goals (first | with_reducible rfl | (simp [Instr.field, go_sem]; rfl))
                 rotate_left
                 · simp only [Act.put, List.setIfInBounds_toArray, List.set_cons_zero, List.set_cons_succ, i64_w, i32_w]; rfl
                 refine pu_ (i := 15) (N := some 4) (v := ?_) (a' := ?_) rfl rfl (any_of HT_.out (by kernel_rfl)) (fun _ _ _ h => h) (Or.inl ⟨by rfl, ?_⟩) ?_ ?_; rotate_left
                 · intro w'; go_simp; all_goals (first | with_reducible rfl | (simp [Instr.field, go_sem]; rfl))
                 rotate_left
                 · simp only [Act.put, List.setIfInBounds_toArray, List.set_cons_zero, List.set_cons_succ, i64_w, i32_w]; rfl
                 refine done_ (done_of HT_.out (by kernel_rfl)) ?_
                 try go_wp2
                 go_ret
                 exact ⟨by first | rfl | (simp [errW_none, errW_some] <;> rfl) | (simp [*, errW_none, errW_some] <;> rfl), by repeat (first | (with_reducible first | exact HB.out | apply below_alloc | apply pw_below_drewN | apply below_drew1) | exact HB.out)⟩
               · rw [if_neg c28] at H
                 have c28b0 : (((rd_T72 l0 a1).f0) == 10) = false := beq_eq_false_iff_ne.mpr c28
                 have c28b1 : (((rd_T72 l0 a1).f0) != 10) = true := bne_iff_ne.mpr c28
                 by_cases c37 : ((rd_T72 l0 a1).f0) = 11
                 · rw [if_pos c37] at H
                   have c37b0 : (((rd_T72 l0 a1).f0) == 11) = true := beq_iff_eq.mpr c37
                   have c37b1 : (((rd_T72 l0 a1).f0) != 11) = false := bne_eq_false_iff_eq.mpr c37
                   clear c37
                   replace H := Option.bind_eq_some_iff.mp H
                   obtain ⟨t239, A380, H⟩ := H
                   (try dsimp only at H)
                   have A38 := Aside0.mk A380
                   clear A380
                   by_cases c39 : 1 + t239.size ≤ 9223372036854775807
                   case neg => rw [if_neg c39] at H; exact absurd H (by simp)
                   rw [if_pos c39] at H
                   have c39b0 := eq_true c39
                   have c39b1 : decide (1 + t239.size ≤ 9223372036854775807) = true := decide_eq_true c39
                   try have c39b2 : (9223372036854775807 < 1 + t239.size) = False := eq_false (Nat.not_lt.2 c39)
                   by_cases c40 : ((⟨#[32]⟩ : ByteArray) ++ t239).size + 1 ≤ 9223372036854775807
                   case neg => rw [if_neg c40] at H; exact absurd H (by simp)
                   rw [if_pos c40] at H
                   have c40b0 := eq_true c40
                   have c40b1 : decide (((⟨#[32]⟩ : ByteArray) ++ t239).size + 1 ≤ 9223372036854775807) = true := decide_eq_true c40
                   try have c40b2 : (9223372036854775807 < ((⟨#[32]⟩ : ByteArray) ++ t239).size + 1) = False := eq_false (Nat.not_lt.2 c40)
                   (try (have c40b3 := c40b2; simp only [ByteArray.size_append] at c40b3))
                   (try (have c40b4 : (9223372036854775807 < 1 + t239.size + 1) = False := eq_false (by have h_ := c40; simp only [ByteArray.size_append] at h_; have e0_ : (⟨#[32]⟩ : ByteArray).size = 1 := rfl; omega)))
                   replace H := Option.bind_eq_some_iff.mp H
                   obtain ⟨t241, A410, H⟩ := H
                   (try dsimp only at H)
                   have A41 := Aside0.mk A410
                   clear A410
                   by_cases c42 : (((⟨#[32]⟩ : ByteArray) ++ t239) ++ (⟨#[32]⟩ : ByteArray)).size + t241.size ≤ 9223372036854775807
                   case neg => rw [if_neg c42] at H; exact absurd H (by simp)
                   rw [if_pos c42] at H
                   have c42b0 := eq_true c42
                   have c42b1 : decide ((((⟨#[32]⟩ : ByteArray) ++ t239) ++ (⟨#[32]⟩ : ByteArray)).size + t241.size ≤ 9223372036854775807) = true := decide_eq_true c42
                   try have c42b2 : (9223372036854775807 < (((⟨#[32]⟩ : ByteArray) ++ t239) ++ (⟨#[32]⟩ : ByteArray)).size + t241.size) = False := eq_false (Nat.not_lt.2 c42)
                   (try (have c42b3 := c42b2; simp only [ByteArray.size_append] at c42b3))
                   (try (have c42b4 : (9223372036854775807 < 1 + t239.size + 1 + t241.size) = False := eq_false (by have h_ := c42; simp only [ByteArray.size_append] at h_; have e0_ : (⟨#[32]⟩ : ByteArray).size = 1 := rfl; omega)))
                   obtain rfl := Option.some.inj H
                   have p222 : 0 ≤ (a1 : Int) := of_decide_eq_true (by first | (with_reducible assumption) | assumption)
                   have q222 : a1 < (l0.length : Int) := of_decide_eq_true (by first | (with_reducible assumption) | assumption)
                   obtain ⟨ad222, A222_2, c222_2, A222_3, c222_3, e222, hx222_0, hx222_1, hx222_2, hx222_3, hx222_4, hx222_5, hl222_2, hi222_2, hl222_3, hi222_3⟩ := at_T72 HR0.out a1 p222 q222
                   cases e222
                   have HR222_2 := Aside0.mk hi222_2
                   have HC222_2 := Aside0.mk hl222_2
                   clear hi222_2 hl222_2
                   have HR222_3 := Aside0.mk hi222_3
                   have HC222_3 := Aside0.mk hl222_3
                   clear hi222_3 hl222_3
                   replace p222 := eq_true p222
                   replace q222 := eq_true q222
                   go_enter Tryd.func75, Tryd.ntmps75
                   try go_wp2
                   have n0_ := Aside0.mk (below_drew1 HB.out)
                   clear HB
                   have HB := n0_
                   clear n0_
                   have p238 : 0 ≤ (a1 : Int) := of_decide_eq_true (by first | (with_reducible assumption) | assumption)
                   have q238 : a1 < (l0.length : Int) := of_decide_eq_true (by first | (with_reducible assumption) | assumption)
                   obtain ⟨ad238, A238_2, c238_2, A238_3, c238_3, e238, hx238_0, hx238_1, hx238_2, hx238_3, hx238_4, hx238_5, hl238_2, hi238_2, hl238_3, hi238_3⟩ := at_T72 HR0.out a1 p238 q238
                   have hw238_5 := hx238_5
                   have hw238_4 := hx238_4
                   have hw238_3 := hx238_3
                   have hw238_2 := hx238_2
                   have hw238_1 := hx238_1
                   have hw238_0 := hx238_0
                   obtain rfl : ad222 = ad238 := (by injection e238)
                   replace hx238_0 := ck_ HB.out hx238_0
                   replace hx238_1 := ck_ HB.out hx238_1
                   replace hx238_2 := ck_ HB.out hx238_2
                   replace hx238_3 := ck_ HB.out hx238_3
                   replace hx238_4 := ck_ HB.out hx238_4
                   replace hx238_5 := ck_ HB.out hx238_5
                   have HR238_2 := Aside0.mk hi238_2
                   have HC238_2 := Aside0.mk hl238_2
                   clear hi238_2 hl238_2
                   have HR238_3 := Aside0.mk hi238_3
                   have HC238_3 := Aside0.mk hl238_3
                   clear hi238_3 hl238_3
                   replace p238 := eq_true p238
                   replace q238 := eq_true q238
                   have p240 : 0 ≤ (a1 : Int) := of_decide_eq_true (by first | (with_reducible assumption) | assumption)
                   have q240 : a1 < (l0.length : Int) := of_decide_eq_true (by first | (with_reducible assumption) | assumption)
                   obtain ⟨ad240, A240_2, c240_2, A240_3, c240_3, e240, hx240_0, hx240_1, hx240_2, hx240_3, hx240_4, hx240_5, hl240_2, hi240_2, hl240_3, hi240_3⟩ := at_T72 HR0.out a1 p240 q240
                   have hw240_5 := hx240_5
                   have hw240_4 := hx240_4
                   have hw240_3 := hx240_3
                   have hw240_2 := hx240_2
                   have hw240_1 := hx240_1
                   have hw240_0 := hx240_0
                   obtain rfl : ad222 = ad240 := (by injection e240)
                   replace hx240_0 := ck_ HB.out hx240_0
                   replace hx240_1 := ck_ HB.out hx240_1
                   replace hx240_2 := ck_ HB.out hx240_2
                   replace hx240_3 := ck_ HB.out hx240_3
                   replace hx240_4 := ck_ HB.out hx240_4
                   replace hx240_5 := ck_ HB.out hx240_5
                   have HR240_2 := Aside0.mk hi240_2
                   have HC240_2 := Aside0.mk hl240_2
                   clear hi240_2 hl240_2
                   have HR240_3 := Aside0.mk hi240_3
                   have HC240_3 := Aside0.mk hl240_3
                   clear hi240_3 hl240_3
                   replace p240 := eq_true p240
                   replace q240 := eq_true q240
                   have ea_ := Option.some.inj (hx238_2.symm.trans hx240_2)
                   injection ea_ with ea_ en_ ec_
                   subst ea_
                   subst ec_
                   clear en_
                   have ea_ := Option.some.inj (hx238_3.symm.trans hx240_3)
                   injection ea_ with ea_ en_ ec_
                   subst ea_
                   subst ec_
                   clear en_
                   refine start_ (n := 16) (S := fun w' => w'.cell? (ad222.add ((a1).toNat * 6)) = some (.int .i64 ((rd_T72 l0 a1).f0)) ∧ w'.cell? ⟨(ad222.add ((a1).toNat * 6)).block, (ad222.add ((a1).toNat * 6)).off + 1, none⟩ = some (.int .i64 ((rd_T72 l0 a1).f1)) ∧ w'.cell? ⟨(ad222.add ((a1).toNat * 6)).block, (ad222.add ((a1).toNat * 6)).off + 2, none⟩ = some (.slice A238_2 ((rd_T72 l0 a1).f2).length c238_2) ∧ w'.cell? ⟨(ad222.add ((a1).toNat * 6)).block, (ad222.add ((a1).toNat * 6)).off + 3, none⟩ = some (.slice A238_3 ((rd_T72 l0 a1).f3).length c238_3) ∧ w'.cell? ⟨(ad222.add ((a1).toNat * 6)).block, (ad222.add ((a1).toNat * 6)).off + 4, none⟩ = some (.int .i64 ((rd_T72 l0 a1).f4)) ∧ w'.cell? ⟨(ad222.add ((a1).toNat * 6)).block, (ad222.add ((a1).toNat * 6)).off + 5, none⟩ = some (.int .i64 ((rd_T72 l0 a1).f5)) ∧ w'.cell? (ad222.add ((a1).toNat * 6)) = some (.int .i64 ((rd_T72 l0 a1).f0)) ∧ w'.cell? ⟨(ad222.add ((a1).toNat * 6)).block, (ad222.add ((a1).toNat * 6)).off + 1, none⟩ = some (.int .i64 ((rd_T72 l0 a1).f1)) ∧ w'.cell? ⟨(ad222.add ((a1).toNat * 6)).block, (ad222.add ((a1).toNat * 6)).off + 2, none⟩ = some (.slice A238_2 ((rd_T72 l0 a1).f2).length c238_2) ∧ w'.cell? ⟨(ad222.add ((a1).toNat * 6)).block, (ad222.add ((a1).toNat * 6)).off + 3, none⟩ = some (.slice A238_3 ((rd_T72 l0 a1).f3).length c238_3) ∧ w'.cell? ⟨(ad222.add ((a1).toNat * 6)).block, (ad222.add ((a1).toNat * 6)).off + 4, none⟩ = some (.int .i64 ((rd_T72 l0 a1).f4)) ∧ w'.cell? ⟨(ad222.add ((a1).toNat * 6)).block, (ad222.add ((a1).toNat * 6)).off + 5, none⟩ = some (.int .i64 ((rd_T72 l0 a1).f5))) (ds := []) #[false, false, false, false, false, false, false, false, false, false, false, false, false, false, false, false] (by kernel_rfl) rfl rfl ⟨(ck_ HB.out hw238_0), (ck_ HB.out hw238_1), (ck_ HB.out hw238_2), (ck_ HB.out hw238_3), (ck_ HB.out hw238_4), (ck_ HB.out hw238_5), (ck_ HB.out hw240_0), (ck_ HB.out hw240_1), (ck_ HB.out hw240_2), (ck_ HB.out hw240_3), (ck_ HB.out hw240_4), (ck_ HB.out hw240_5)⟩ (fun hHeld => ?_); refine with_tabW spec_l12Tail.tab17 spec_l12Tail.bits17 (fun HT_ HW_ => ?_)
                   generalize w.drew = w43 at HB HR238_2 HR238_3 HR240_2 HR240_3 hx238_0 hx238_1 hx238_2 hx238_3 hx238_4 hx238_5 hx240_0 hx240_1 hx240_2 hx240_3 hx240_4 hx240_5 hHeld ⊢
                   refine pu_ (i := 0) (N := some 59) (v := ?_) (a' := ?_) rfl rfl (any_of HT_.out (by kernel_rfl)) (fun _ _ _ h => h) (Or.inl ⟨by rfl, ?_⟩) ?_ ?_; rotate_left
                   · intro w'; go_simp; all_goals (first | with_reducible rfl | (simp [Instr.field, go_sem]; rfl))
                   rotate_left
                   · simp only [Act.put, List.setIfInBounds_toArray, List.set_cons_zero, List.set_cons_succ, i64_w, i32_w]; rfl
                   refine pu_ (i := 1) (N := some 60) (v := ?_) (a' := ?_) rfl rfl (any_of HT_.out (by kernel_rfl)) (fun _ _ _ h => h) (Or.inl ⟨by rfl, ?_⟩) ?_ ?_; rotate_left
                   · intro w'; go_simp; all_goals (first | with_reducible rfl | (simp [Instr.field, go_sem]; rfl))
                   rotate_left
                   · simp only [Act.put, List.setIfInBounds_toArray, List.set_cons_zero, List.set_cons_succ, i64_w, i32_w]; rfl
                   refine pu_ (i := 2) (N := some 61) (v := ?_) (a' := ?_) rfl rfl (any_of HT_.out (by kernel_rfl)) (fun _ _ _ h => h) (Or.inl ⟨by rfl, ?_⟩) ?_ ?_; rotate_left
                   · intro w'; go_simp; all_goals (first | with_reducible rfl | (simp [Instr.field, go_sem]; rfl))
                   rotate_left
                   · simp only [Act.put, List.setIfInBounds_toArray, List.set_cons_zero, List.set_cons_succ, i64_w, i32_w]; rfl
                   refine pu_ (i := 3) (N := some 62) (v := ?_) (a' := ?_) rfl rfl (any_of HT_.out (by kernel_rfl)) (fun _ _ _ h => h) (Or.inl ⟨by rfl, ?_⟩) ?_ ?_; rotate_left
                   · intro w'; go_simp; all_goals (first | with_reducible rfl | (simp [Instr.field, go_sem]; rfl))
                   rotate_left
                   · simp only [Act.put, List.setIfInBounds_toArray, List.set_cons_zero, List.set_cons_succ, i64_w, i32_w]; rfl
                   refine pu_ (i := 8) (N := some 67) (v := ?_) (a' := ?_) rfl rfl (any_of HT_.out (by kernel_rfl)) (fun _ _ _ h => h) (Or.inl ⟨by rfl, ?_⟩) ?_ ?_; rotate_left
                   · intro w'; go_simp; all_goals (first | with_reducible rfl | (simp [Instr.field, go_sem]; rfl))
                   rotate_left
                   · simp only [Act.put, List.setIfInBounds_toArray, List.set_cons_zero, List.set_cons_succ, i64_w, i32_w]; rfl
                   refine pu_ (i := 9) (N := some 68) (v := ?_) (a' := ?_) rfl rfl (any_of HT_.out (by kernel_rfl)) (fun _ _ _ h => h) (Or.inl ⟨by rfl, ?_⟩) ?_ ?_; rotate_left
                   · intro w'; go_simp; all_goals (first | with_reducible rfl | (simp [Instr.field, go_sem]; rfl))
                   rotate_left
                   · simp only [Act.put, List.setIfInBounds_toArray, List.set_cons_zero, List.set_cons_succ, i64_w, i32_w]; rfl
                   refine pu_ (i := 10) (N := some 69) (v := ?_) (a' := ?_) rfl rfl (any_of HT_.out (by kernel_rfl)) (fun _ _ _ h => h) (Or.inl ⟨by rfl, ?_⟩) ?_ ?_; rotate_left
                   · intro w'; go_simp; all_goals (first | with_reducible rfl | (simp [Instr.field, go_sem]; rfl))
                   rotate_left
                   · simp only [Act.put, List.setIfInBounds_toArray, List.set_cons_zero, List.set_cons_succ, i64_w, i32_w]; rfl
                   refine pu_ (i := 11) (N := some 70) (v := ?_) (a' := ?_) rfl rfl (any_of HT_.out (by kernel_rfl)) (fun _ _ _ h => h) (Or.inl ⟨by rfl, ?_⟩) ?_ ?_; rotate_left
                   · intro w'; go_simp; all_goals (first | with_reducible rfl | (simp [Instr.field, go_sem]; rfl))
                   rotate_left
                   · simp only [Act.put, List.setIfInBounds_toArray, List.set_cons_zero, List.set_cons_succ, i64_w, i32_w]; rfl
                   refine ta_ (i := 4) (N := some 63) (v := ?_) (a' := ?_) rfl rfl (take_ofW HT_.out HW_.out (by kernel_rfl)) (fun _ _ _ h => h) (Or.inl ⟨by rfl, ?_⟩) hHeld ?_ ?_; rotate_left
                   · rintro w' ⟨s0, s1, s2, s3, s4, s5, s6, s7, s8, s9, s10, s11⟩; go_simp; all_goals (first | with_reducible rfl | (simp [Instr.field, go_sem]; rfl))
                   rotate_left
                   · simp only [Act.put, List.setIfInBounds_toArray, List.set_cons_zero, List.set_cons_succ, i64_w, i32_w]; rfl
                   refine ta_ (i := 12) (N := some 71) (v := ?_) (a' := ?_) rfl rfl (take_ofW HT_.out HW_.out (by kernel_rfl)) (fun _ _ _ h => h) (Or.inl ⟨by rfl, ?_⟩) hHeld ?_ ?_; rotate_left
                   · rintro w' ⟨s0, s1, s2, s3, s4, s5, s6, s7, s8, s9, s10, s11⟩; go_simp; all_goals (first | with_reducible rfl | (simp [Instr.field, go_sem]; rfl))
                   rotate_left
                   · simp only [Act.put, List.setIfInBounds_toArray, List.set_cons_zero, List.set_cons_succ, i64_w, i32_w]; rfl
                   refine on_ (i := 5) (N := some 64) rfl rfl (one_of HT_.out (by kernel_rfl)) (by decide) (fun K hK => ?_)
                   refine goes_ Tryd.func43 (by kernel_rfl) rfl #[.slice (some ad222) l0.length c0, .int .i64 ((rd_T72 l0 a1).f4)] (by rfl) rfl rfl (by (try simp only [List.map_toArray, List.map_cons, List.map_nil]); first | done | rfl | (simp only [List.length_drop, List.length_take]; rfl)) ?_
                   with_reducible refine (spec_l12Text.callsOf (spec_l12Tail.f k) (ih k (by omega)) _ _ l0 ((rd_T72 l0 a1).f4) t239 _ ?side1 ?side2 A38.out).mono ?_
                   (case side1 => exact C_up (Kd.C_below HR0.out HB.out))
                   (case side2 => exact HC0.out)
                   rintro e w44 ⟨rfl, hb⟩
                   refine ⟨_, rfl, ?_⟩
                   have n0_ := Aside0.mk (below_step (HB_up HB.out) hb)
                   clear HB
                   have HB := n0_
                   clear n0_
                   (try clear hb)
                   (try clear hb2)
                   (try clear hk)
                   (try clear hi)
                   refine hK.out _ _ ⟨(ck_ HB.out hw238_0), (ck_ HB.out hw238_1), (ck_ HB.out hw238_2), (ck_ HB.out hw238_3), (ck_ HB.out hw238_4), (ck_ HB.out hw238_5), (ck_ HB.out hw240_0), (ck_ HB.out hw240_1), (ck_ HB.out hw240_2), (ck_ HB.out hw240_3), (ck_ HB.out hw240_4), (ck_ HB.out hw240_5)⟩ (fun hHeld => ?_)
                   clear hK K
                   refine norm_ (a' := ?_) ?_ ?_
                   rotate_left
                   · show Act.put _ (some 64) _ = _
                     simp only [Act.put, List.setIfInBounds_toArray, List.set_cons_zero, List.set_cons_succ, i64_w, i32_w]
                     rfl
                   refine pu_ (i := 6) (N := some 65) (v := ?_) (a' := ?_) rfl rfl (any_of HT_.out (by kernel_rfl)) (fun _ _ _ h => h) (Or.inl ⟨by rfl, ?_⟩) ?_ ?_; rotate_left
                   · intro w'; go_simp; all_goals (first | with_reducible rfl | (simp [Instr.field, go_sem]; rfl))
                   rotate_left
                   · simp only [Act.put, List.setIfInBounds_toArray, List.set_cons_zero, List.set_cons_succ, i64_w, i32_w]; rfl
                   refine pu_ (i := 7) (N := some 66) (v := ?_) (a' := ?_) rfl rfl (any_of HT_.out (by kernel_rfl)) (fun _ _ _ h => h) (Or.inl ⟨by rfl, ?_⟩) ?_ ?_; rotate_left
                   · intro w'; go_simp; all_goals (first | with_reducible rfl | (simp [Instr.field, go_sem]; rfl))
                   rotate_left
                   · simp only [Act.put, List.setIfInBounds_toArray, List.set_cons_zero, List.set_cons_succ, i64_w, i32_w]; rfl
                   refine on_ (i := 13) (N := some 72) rfl rfl (one_of HT_.out (by kernel_rfl)) (by decide) (fun K hK => ?_)
                   refine goes_ Tryd.func43 (by kernel_rfl) rfl #[.slice (some ad222) l0.length c0, .int .i64 ((rd_T72 l0 a1).f5)] (by rfl) rfl rfl (by (try simp only [List.map_toArray, List.map_cons, List.map_nil]); first | done | rfl | (simp only [List.length_drop, List.length_take]; rfl)) ?_
                   with_reducible refine (spec_l12Text.callsOf (spec_l12Tail.f k) (ih k (by omega)) _ _ l0 ((rd_T72 l0 a1).f5) t241 _ ?side1 ?side2 A41.out).mono ?_
                   (case side1 => exact C_up (Kd.C_below HR0.out HB.out))
                   (case side2 => exact HC0.out)
                   rintro e w45 ⟨rfl, hb⟩
                   refine ⟨_, rfl, ?_⟩
                   have n0_ := Aside0.mk (below_step (HB_up HB.out) hb)
                   clear HB
                   have HB := n0_
                   clear n0_
                   (try clear hb)
                   (try clear hb2)
                   (try clear hk)
                   (try clear hi)
                   refine hK.out _ _ ⟨(ck_ HB.out hw238_0), (ck_ HB.out hw238_1), (ck_ HB.out hw238_2), (ck_ HB.out hw238_3), (ck_ HB.out hw238_4), (ck_ HB.out hw238_5), (ck_ HB.out hw240_0), (ck_ HB.out hw240_1), (ck_ HB.out hw240_2), (ck_ HB.out hw240_3), (ck_ HB.out hw240_4), (ck_ HB.out hw240_5)⟩ (fun hHeld => ?_)
                   clear hK K
                   refine norm_ (a' := ?_) ?_ ?_
                   rotate_left
                   · show Act.put _ (some 72) _ = _
                     simp only [Act.put, List.setIfInBounds_toArray, List.set_cons_zero, List.set_cons_succ, i64_w, i32_w]
                     rfl
                   refine pu_ (i := 14) (N := some 73) (v := ?_) (a' := ?_) rfl rfl (any_of HT_.out (by kernel_rfl)) (fun _ _ _ h => h) (Or.inl ⟨by rfl, ?_⟩) ?_ ?_; rotate_left
                   · intro w'; go_simp; all_goals (first | with_reducible rfl | (simp [Instr.field, go_sem]; rfl))
                   rotate_left
                   · simp only [Act.put, List.setIfInBounds_toArray, List.set_cons_zero, List.set_cons_succ, i64_w, i32_w]; rfl
                   refine pu_ (i := 15) (N := some 4) (v := ?_) (a' := ?_) rfl rfl (any_of HT_.out (by kernel_rfl)) (fun _ _ _ h => h) (Or.inl ⟨by rfl, ?_⟩) ?_ ?_; rotate_left
                   · intro w'; go_simp; all_goals (first | with_reducible rfl | (simp [Instr.field, go_sem]; rfl))
                   rotate_left
                   · simp only [Act.put, List.setIfInBounds_toArray, List.set_cons_zero, List.set_cons_succ, i64_w, i32_w]; rfl
                   refine done_ (done_of HT_.out (by kernel_rfl)) ?_
                   try go_wp2
                   go_ret
                   exact ⟨by first | rfl | (simp [errW_none, errW_some] <;> rfl) | (simp [*, errW_none, errW_some] <;> rfl), by repeat (first | (with_reducible first | exact HB.out | apply below_alloc | apply pw_below_drewN | apply below_drew1) | exact HB.out)⟩
                 · rw [if_neg c37] at H
                   have c37b0 : (((rd_T72 l0 a1).f0) == 11) = false := beq_eq_false_iff_ne.mpr c37
                   have c37b1 : (((rd_T72 l0 a1).f0) != 11) = true := bne_iff_ne.mpr c37
                   replace H := Option.bind_eq_some_iff.mp H
                   obtain ⟨t242, A460, H⟩ := H
                   (try dsimp only at H)
                   have A46 := Aside0.mk A460
                   clear A460
                   by_cases c47 : 1 + t242.size ≤ 9223372036854775807
                   case neg => rw [if_neg c47] at H; exact absurd H (by simp)
                   rw [if_pos c47] at H
                   have c47b0 := eq_true c47
                   have c47b1 : decide (1 + t242.size ≤ 9223372036854775807) = true := decide_eq_true c47
                   try have c47b2 : (9223372036854775807 < 1 + t242.size) = False := eq_false (Nat.not_lt.2 c47)
                   obtain rfl := Option.some.inj H
                   have p222 : 0 ≤ (a1 : Int) := of_decide_eq_true (by first | (with_reducible assumption) | assumption)
                   have q222 : a1 < (l0.length : Int) := of_decide_eq_true (by first | (with_reducible assumption) | assumption)
                   obtain ⟨ad222, A222_2, c222_2, A222_3, c222_3, e222, hx222_0, hx222_1, hx222_2, hx222_3, hx222_4, hx222_5, hl222_2, hi222_2, hl222_3, hi222_3⟩ := at_T72 HR0.out a1 p222 q222
                   cases e222
                   have HR222_2 := Aside0.mk hi222_2
                   have HC222_2 := Aside0.mk hl222_2
                   clear hi222_2 hl222_2
                   have HR222_3 := Aside0.mk hi222_3
                   have HC222_3 := Aside0.mk hl222_3
                   clear hi222_3 hl222_3
                   replace p222 := eq_true p222
                   replace q222 := eq_true q222
                   go_enter Tryd.func75, Tryd.ntmps75
                   go_wp2_with (first | ((with_reducible refine gate_callee (f := 88) rfl ?_); refine goesL_ (some 78) rfl rfl Tryd.func88 (by kernel_rfl) rfl #[.int .i64 ((rd_T72 l0 a1).f1)] rfl (by (try simp only [List.map_toArray, List.map_cons, List.map_nil]); first | done | rfl | (simp only [List.length_drop, List.length_take]; rfl)) ?_; (with_reducible refine (spec_l1Digits.calls k ((rd_T72 l0 a1).f1) t242 _ A46.out).mono ?_); rintro e w48 ⟨rfl, hb⟩; refine ⟨_, rfl, ?_⟩; have n0_ := Aside0.mk (below_step (HB_up HB.out) hb); clear HB; have HB := n0_; clear n0_; (try clear hb); (try clear hb2); (try clear hk); (try clear hi)))
                   go_ret
                   exact ⟨by first | rfl | (simp [errW_none, errW_some] <;> rfl) | (simp [*, errW_none, errW_some] <;> rfl), by repeat (first | (with_reducible first | exact HB.out | apply below_alloc | apply pw_below_drewN | apply below_drew1) | exact HB.out)⟩
 · rw [if_neg c3] at H
   exact absurd H (by simp)

def spec_l12Text.f (k : Nat) (l0 : List (S72)) (a1 : Int) : Option (ByteArray) := spec_l12Text.g (spec_l12Tail.f k) l0 a1
theorem spec_l12Text.calls (k : Nat) (A0 : Option Addr) (c0 : Nat) (l0 : List (S72)) (a1 : Int) (r : ByteArray) (w : World) (hr0 : Kd.C k72 w A0 l0.length l0) (hc0 : l0.length ≤ c0) (h : spec_l12Text.f k l0 a1 = some r) :
    Calls Tryd.prog 43 #[.slice A0 l0.length c0, .int .i64 a1] w fun e w' => e = .returned (.string r) ∧ Below w.heap.size w w' := spec_l12Text.callsOf (spec_l12Tail.f k) (spec_l12Tail.calls k) A0 c0 l0 a1 r w hr0 hc0 h

/-! ### spec_TermsText: function 19 -/
def spec_TermsText.f (k : Nat) (l0 : List (S72)) : Option (Int × ByteArray) := (spec_l12Fault.f k l0).bind fun t244 => (if t244 = 0 then ((spec_l12Text.f k l0 (wrap64 ((l0.length : Int) - 1))).bind fun t245 => (some (0, t245))) else (some (t244, (⟨#[]⟩ : ByteArray))))
set_option maxHeartbeats 8000000 in
set_option maxRecDepth 100000 in
theorem spec_TermsText.calls (k : Nat) (A0 : Option Addr) (c0 : Nat) (l0 : List (S72)) (r1 : Int) (r2 : ByteArray) (w : World) (hr0 : Kd.C k72 w A0 l0.length l0) (hc0 : l0.length ≤ c0) (h : spec_TermsText.f k l0 = some (r1, r2)) :
 Calls Tryd.prog 19 #[.slice A0 l0.length c0] w fun e w' => e = .returned (.agg #[.int .i64 r1, .string r2]) ∧ Below w.heap.size w w' := by
 have hu25 := Tryd.underlying25
 have HR0 := Aside0.mk hr0
 have HC0 := Aside0.mk hc0
 clear hr0 hc0
 have HB := Aside0.mk (Below.refl w.heap.size w)
 have H : ((spec_l12Fault.f k l0).bind fun t244 => (if t244 = 0 then ((spec_l12Text.f k l0 (wrap64 ((l0.length : Int) - 1))).bind fun t245 => (some (0, t245))) else (some (t244, (⟨#[]⟩ : ByteArray))))) = some (r1, r2) := h
 clear h
 replace H := Option.bind_eq_some_iff.mp H
 obtain ⟨t244, A20, H⟩ := H
 (try dsimp only at H)
 have A2 := Aside0.mk A20
 clear A20
 by_cases c3 : t244 = 0
 · rw [if_pos c3] at H
   have c3b0 : (t244 == 0) = true := beq_iff_eq.mpr c3
   have c3b1 : (t244 != 0) = false := bne_eq_false_iff_eq.mpr c3
   clear c3
   replace H := Option.bind_eq_some_iff.mp H
   obtain ⟨t245, A40, H⟩ := H
   replace H : (some (0, t245)) = some (r1, r2) := H
   have A4 := Aside0.mk A40
   clear A40
   simp only [Option.some.injEq, Prod.mk.injEq] at H
   obtain ⟨rfl, rfl⟩ := H
   go_enter Tryd.func19, Tryd.ntmps19
   go_wp2_with (first | ((with_reducible refine gate_dst (N := 2) rfl ?_); refine box_event ?hg (N := 2) ?hd (cs := #[.int .i64 0, .string (⟨#[]⟩ : ByteArray)]) (t := 25) ?hr ?_; (case hd => rfl); (case hg => rfl); (case hr => first | (go_simp; done) | (go_simp; rfl)); intro gb243 hg w5 hbox hb; have n0_ := Aside0.mk (below_step (HB_up HB.out) hb); have n1_ := Aside0.mk (hbox); have n2_ := Aside0.mk ((by rw [hg]; exact (below_size (HB_up HB.out)) : w.heap.size ≤ gb243)); have n3_ := Aside0.mk ((by rw [hg]; exact (below_size (HB_up HB.out)) : w.heap.size ≤ gb243)); clear HB; have HB := n0_; have BK243 := n1_; have GW243 := n2_; have GE243 := n3_; clear n0_ n1_ n2_ n3_; clear hb hbox hg) | ((with_reducible refine gate_callee (f := 42) rfl ?_); refine goesL_ (some 5) rfl rfl Tryd.func42 (by kernel_rfl) rfl #[.slice A0 l0.length c0] rfl (by (try simp only [List.map_toArray, List.map_cons, List.map_nil]); first | done | rfl | (simp only [List.length_drop, List.length_take]; rfl)) ?_; (with_reducible refine (spec_l12Fault.calls k _ _ l0 t244 _ ?side1 ?side2 A2.out).mono ?_); (case side1 => exact C_up (Kd.C_below HR0.out HB.out)); (case side2 => exact HC0.out); rintro e w6 ⟨rfl, hb⟩; refine ⟨_, rfl, ?_⟩; have n0_ := Aside0.mk (blk_below (g := gb243) (o := .cells #[.int .i64 0, .string (⟨#[]⟩ : ByteArray)] 25 (0, 0)) (blk_up BK243.out) hb); have n1_ := Aside0.mk (below_step (by repeat (first | (with_reducible first | exact HB.out | apply below_alloc | apply pw_below_drewN | apply below_drew1 | refine below_set ?_ GE243.out) | exact HB.out)) hb); clear BK243; clear HB; have BK243 := n0_; have HB := n1_; clear n0_ n1_; (try clear hb); (try clear hb2); (try clear hk); (try clear hi)) | ((with_reducible refine gate_callee (f := 43) rfl ?_); refine goesL_ (some 14) rfl rfl Tryd.func43 (by kernel_rfl) rfl #[.slice A0 l0.length c0, .int .i64 (wrap64 ((l0.length : Int) - 1))] rfl (by (try simp only [List.map_toArray, List.map_cons, List.map_nil]); first | done | rfl | (simp only [List.length_drop, List.length_take]; rfl)) ?_; (with_reducible refine (spec_l12Text.calls k _ _ l0 (wrap64 ((l0.length : Int) - 1)) t245 _ ?side1 ?side2 A4.out).mono ?_); (case side1 => exact C_up (Kd.C_below HR0.out HB.out)); (case side2 => exact HC0.out); rintro e w7 ⟨rfl, hb⟩; refine ⟨_, rfl, ?_⟩; have n0_ := Aside0.mk (blk_below (g := gb243) (o := .cells #[.int .i64 0, .string (⟨#[]⟩ : ByteArray)] 25 (0, 0)) (blk_up BK243.out) hb); have n1_ := Aside0.mk (below_step (by repeat (first | (with_reducible first | exact HB.out | apply below_alloc | apply pw_below_drewN | apply below_drew1 | refine below_set ?_ GE243.out) | exact HB.out)) hb); clear BK243; clear HB; have BK243 := n0_; have HB := n1_; clear n0_ n1_; (try clear hb); (try clear hb2); (try clear hk); (try clear hi); have hcz8_0 : w7.cell? ⟨gb243, 0, none⟩ = some (.int .i64 0) := (blk_cell BK243.out 0).trans rfl; have hcz8_1 : w7.cell? ⟨gb243, 1, none⟩ = some (.string (⟨#[]⟩ : ByteArray)) := (blk_cell BK243.out 1).trans rfl; have hfz8_0 := blk_frozen BK243.out 0; have hfz8_1 := blk_frozen BK243.out 1))
   refine bodyPost_ret (results_cell_row rfl _ _ gb243 25 #[.int .i64 0, .string t245] (0, 0) _ rfl (by (with_reducible repeat (first | refine blk_drewN ?_ _ | refine blk_drew ?_ | refine blk_alloc ?_ _)); refine blk_put (cs := #[.int .i64 0, .string (⟨#[]⟩ : ByteArray)]) ?_ 1 _ rfl; (with_reducible repeat (first | refine blk_drewN ?_ _ | refine blk_drew ?_ | refine blk_alloc ?_ _)); refine blk_put (cs := #[.int .i64 0, .string (⟨#[]⟩ : ByteArray)]) ?_ 0 _ rfl; (with_reducible repeat (first | refine blk_drewN ?_ _ | refine blk_drew ?_ | refine blk_alloc ?_ _)); exact BK243.out) Tryd.underlying25 rfl (by kernel_rfl)) rfl ?_
   exact ⟨by first | rfl | (simp [errW_none, errW_some] <;> rfl) | (simp [*, errW_none, errW_some] <;> rfl), by repeat (first | (with_reducible first | exact HB.out | apply below_alloc | apply pw_below_drewN | apply below_drew1 | refine below_set ?_ GE243.out) | exact HB.out)⟩
 · rw [if_neg c3] at H
   have c3b0 : (t244 == 0) = false := beq_eq_false_iff_ne.mpr c3
   have c3b1 : (t244 != 0) = true := bne_iff_ne.mpr c3
   simp only [Option.some.injEq, Prod.mk.injEq] at H
   obtain ⟨rfl, rfl⟩ := H
   go_enter Tryd.func19, Tryd.ntmps19
   go_wp2_with (first | ((with_reducible refine gate_dst (N := 2) rfl ?_); refine box_event ?hg (N := 2) ?hd (cs := #[.int .i64 0, .string (⟨#[]⟩ : ByteArray)]) (t := 25) ?hr ?_; (case hd => rfl); (case hg => rfl); (case hr => first | (go_simp; done) | (go_simp; rfl)); intro gb243 hg w9 hbox hb; have n0_ := Aside0.mk (below_step (HB_up HB.out) hb); have n1_ := Aside0.mk (hbox); have n2_ := Aside0.mk ((by rw [hg]; exact (below_size (HB_up HB.out)) : w.heap.size ≤ gb243)); have n3_ := Aside0.mk ((by rw [hg]; exact (below_size (HB_up HB.out)) : w.heap.size ≤ gb243)); clear HB; have HB := n0_; have BK243 := n1_; have GW243 := n2_; have GE243 := n3_; clear n0_ n1_ n2_ n3_; clear hb hbox hg) | ((with_reducible refine gate_callee (f := 42) rfl ?_); refine goesL_ (some 5) rfl rfl Tryd.func42 (by kernel_rfl) rfl #[.slice A0 l0.length c0] rfl (by (try simp only [List.map_toArray, List.map_cons, List.map_nil]); first | done | rfl | (simp only [List.length_drop, List.length_take]; rfl)) ?_; (with_reducible refine (spec_l12Fault.calls k _ _ l0 t244 _ ?side1 ?side2 A2.out).mono ?_); (case side1 => exact C_up (Kd.C_below HR0.out HB.out)); (case side2 => exact HC0.out); rintro e w10 ⟨rfl, hb⟩; refine ⟨_, rfl, ?_⟩; have n0_ := Aside0.mk (blk_below (g := gb243) (o := .cells #[.int .i64 0, .string (⟨#[]⟩ : ByteArray)] 25 (0, 0)) (blk_up BK243.out) hb); have n1_ := Aside0.mk (below_step (by repeat (first | (with_reducible first | exact HB.out | apply below_alloc | apply pw_below_drewN | apply below_drew1 | refine below_set ?_ GE243.out) | exact HB.out)) hb); clear BK243; clear HB; have BK243 := n0_; have HB := n1_; clear n0_ n1_; (try clear hb); (try clear hb2); (try clear hk); (try clear hi); have hcz11_0 : w10.cell? ⟨gb243, 0, none⟩ = some (.int .i64 0) := (blk_cell BK243.out 0).trans rfl; have hcz11_1 : w10.cell? ⟨gb243, 1, none⟩ = some (.string (⟨#[]⟩ : ByteArray)) := (blk_cell BK243.out 1).trans rfl; have hfz11_0 := blk_frozen BK243.out 0; have hfz11_1 := blk_frozen BK243.out 1))
   refine bodyPost_ret (results_cell_row rfl _ _ gb243 25 #[.int .i64 t244, .string (⟨#[]⟩ : ByteArray)] (0, 0) _ rfl (by (with_reducible repeat (first | refine blk_drewN ?_ _ | refine blk_drew ?_ | refine blk_alloc ?_ _)); refine blk_put (cs := #[.int .i64 t244, .string (⟨#[]⟩ : ByteArray)]) ?_ 1 _ rfl; (with_reducible repeat (first | refine blk_drewN ?_ _ | refine blk_drew ?_ | refine blk_alloc ?_ _)); refine blk_put (cs := #[.int .i64 0, .string (⟨#[]⟩ : ByteArray)]) ?_ 0 _ rfl; (with_reducible repeat (first | refine blk_drewN ?_ _ | refine blk_drew ?_ | refine blk_alloc ?_ _)); exact BK243.out) Tryd.underlying25 rfl (by kernel_rfl)) rfl ?_
   exact ⟨by first | rfl | (simp [errW_none, errW_some] <;> rfl) | (simp [*, errW_none, errW_some] <;> rfl), by repeat (first | (with_reducible first | exact HB.out | apply below_alloc | apply pw_below_drewN | apply below_drew1 | refine below_set ?_ GE243.out) | exact HB.out)⟩

/-! ### laws_toRange: function 34 -/
def laws_toRange.f (a0_0 : Int) (a0_1 : Int) : Option (Int × Int) := some (a0_0, a0_1)
set_option maxHeartbeats 8000000 in
set_option maxRecDepth 100000 in
theorem laws_toRange.calls (a0_0 : Int) (a0_1 : Int) (r1 : Int) (r2 : Int) (w : World) (h : laws_toRange.f a0_0 a0_1 = some (r1, r2)) :
 Calls Tryd.prog 34 #[.agg #[.int .i64 a0_0, .int .i64 a0_1]] w fun e w' => e = .returned (.agg #[.int .i64 r1, .int .i64 r2]) ∧ Below w.heap.size w w' := by
 have hu61 := Tryd.underlying61
 have hu58 := Tryd.underlying58
 have HB := Aside0.mk (Below.refl w.heap.size w)
 have H : (some (a0_0, a0_1)) = some (r1, r2) := h
 clear h
 simp only [Option.some.injEq, Prod.mk.injEq] at H
 obtain ⟨rfl, rfl⟩ := H
 go_enter Tryd.func34, Tryd.ntmps34
 go_wp2_with (first | ((with_reducible refine gate_dst (N := 1) rfl ?_); refine box_event ?hg (N := 1) ?hd (cs := #[.int .i64 a0_0, .int .i64 a0_1]) (t := 61) ?hr ?_; (case hd => rfl); (case hg => rfl); (case hr => first | (go_simp; done) | (go_simp; rfl)); intro gb246 hg w2 hbox hb; have n0_ := Aside0.mk (below_step (HB_up HB.out) hb); have n1_ := Aside0.mk (hbox); have n2_ := Aside0.mk ((by rw [hg]; exact (below_size (HB_up HB.out)) : w.heap.size ≤ gb246)); have n3_ := Aside0.mk ((by rw [hg]; exact (below_size (HB_up HB.out)) : w.heap.size ≤ gb246)); clear HB; have HB := n0_; have BK246 := n1_; have GW246 := n2_; have GE246 := n3_; clear n0_ n1_ n2_ n3_; clear hb hbox hg) | ((with_reducible refine gate_dst (N := 2) rfl ?_); refine box_event ?hg (N := 2) ?hd (cs := #[.int .i64 0, .int .i64 0]) (t := 58) ?hr ?_; (case hd => rfl); (case hg => rfl); (case hr => first | (go_simp; done) | (go_simp; rfl)); intro gb247 hg w3 hbox hb; have n0_ := Aside0.mk (blk_below (g := gb246) (blk_up BK246.out) hb); have n1_ := Aside0.mk (below_step (by repeat (first | (with_reducible first | exact HB.out | apply below_alloc | apply pw_below_drewN | apply below_drew1 | refine below_set ?_ GE246.out) | exact HB.out)) hb); have n2_ := Aside0.mk (hbox); have n3_ := Aside0.mk ((by rw [hg]; exact (below_size (by repeat (first | (with_reducible first | exact HB.out | apply below_alloc | apply pw_below_drewN | apply below_drew1 | refine below_set ?_ GE246.out) | exact HB.out))) : w.heap.size ≤ gb247)); have n4_ := Aside0.mk ((by rw [hg]; exact (below_size (by repeat (first | (with_reducible first | exact HB.out | apply below_alloc | apply pw_below_drewN | apply below_drew1 | refine below_set ?_ GE246.out) | exact HB.out))) : w.heap.size ≤ gb247)); have n5_ := Aside0.mk ((by rw [hg]; exact Nat.ne_of_lt (blk_lt (g := gb246) (blk_up BK246.out)) : gb246 ≠ gb247)); have n6_ := Aside0.mk ((by rw [hg]; exact Nat.ne_of_gt (blk_lt (g := gb246) (blk_up BK246.out)) : gb247 ≠ gb246)); clear BK246; clear HB; have BK246 := n0_; have HB := n1_; have BK247 := n2_; have GW247 := n3_; have GE247 := n4_; have NB246_247 := n5_; have NB247_246 := n6_; clear n0_ n1_ n2_ n3_ n4_ n5_ n6_; clear hb hbox hg) | ((with_reducible refine gate_dst (N := 3) rfl ?_); refine box_event ?hg (N := 3) ?hd (cs := #[.int .i64 0, .int .i64 0]) (t := 58) ?hr ?_; (case hd => rfl); (case hg => rfl); (case hr => first | (go_simp; done) | (go_simp; rfl)); intro gb248 hg w4 hbox hb; have n0_ := Aside0.mk (blk_below (g := gb246) (blk_up BK246.out) hb); have n1_ := Aside0.mk (blk_below (g := gb247) (blk_up BK247.out) hb); have n2_ := Aside0.mk (below_step (by repeat (first | (with_reducible first | exact HB.out | apply below_alloc | apply pw_below_drewN | apply below_drew1 | refine below_set ?_ GE246.out | refine below_set ?_ GE247.out) | exact HB.out)) hb); have n3_ := Aside0.mk (hbox); have n4_ := Aside0.mk ((by rw [hg]; exact (below_size (by repeat (first | (with_reducible first | exact HB.out | apply below_alloc | apply pw_below_drewN | apply below_drew1 | refine below_set ?_ GE246.out | refine below_set ?_ GE247.out) | exact HB.out))) : w.heap.size ≤ gb248)); have n5_ := Aside0.mk ((by rw [hg]; exact (below_size (by repeat (first | (with_reducible first | exact HB.out | apply below_alloc | apply pw_below_drewN | apply below_drew1 | refine below_set ?_ GE246.out | refine below_set ?_ GE247.out) | exact HB.out))) : w.heap.size ≤ gb248)); have n6_ := Aside0.mk ((by rw [hg]; exact Nat.ne_of_lt (blk_lt (g := gb246) (blk_up BK246.out)) : gb246 ≠ gb248)); have n7_ := Aside0.mk ((by rw [hg]; exact Nat.ne_of_gt (blk_lt (g := gb246) (blk_up BK246.out)) : gb248 ≠ gb246)); have n8_ := Aside0.mk ((by rw [hg]; exact Nat.ne_of_lt (blk_lt (g := gb247) (blk_up BK247.out)) : gb247 ≠ gb248)); have n9_ := Aside0.mk ((by rw [hg]; exact Nat.ne_of_gt (blk_lt (g := gb247) (blk_up BK247.out)) : gb248 ≠ gb247)); clear BK246; clear BK247; clear HB; have BK246 := n0_; have BK247 := n1_; have HB := n2_; have BK248 := n3_; have GW248 := n4_; have GE248 := n5_; have NB246_248 := n6_; have NB248_246 := n7_; have NB247_248 := n8_; have NB248_247 := n9_; clear n0_ n1_ n2_ n3_ n4_ n5_ n6_ n7_ n8_ n9_; clear hb hbox hg; have hnb5 := NB246_247.out; have hnc5 := NB247_246.out; have hnb6 := NB246_248.out; have hnc6 := NB248_246.out; have hcz7_0 : w4.cell? ⟨gb246, 0, none⟩ = some (.int .i64 a0_0) := (blk_cell BK246.out 0).trans rfl; have hcz7_1 : w4.cell? ⟨gb246, 1, none⟩ = some (.int .i64 a0_1) := (blk_cell BK246.out 1).trans rfl; have hfz7_0 := blk_frozen BK246.out 0; have hfz7_1 := blk_frozen BK246.out 1; have hnb8 := NB248_247.out; have hnc8 := NB247_248.out; have hcz9_0 : w4.cell? ⟨gb248, 0, none⟩ = some (.int .i64 0) := (blk_cell BK248.out 0).trans rfl; have hcz9_1 : w4.cell? ⟨gb248, 1, none⟩ = some (.int .i64 0) := (blk_cell BK248.out 1).trans rfl; have hfz9_0 := blk_frozen BK248.out 0; have hfz9_1 := blk_frozen BK248.out 1; have hcz10_0 : w4.cell? ⟨gb247, 0, none⟩ = some (.int .i64 0) := (blk_cell BK247.out 0).trans rfl; have hcz10_1 : w4.cell? ⟨gb247, 1, none⟩ = some (.int .i64 0) := (blk_cell BK247.out 1).trans rfl; have hfz10_0 := blk_frozen BK247.out 0; have hfz10_1 := blk_frozen BK247.out 1))
 refine bodyPost_ret (results_cell_row rfl _ _ gb247 58 #[.int .i64 a0_0, .int .i64 a0_1] (0, 0) _ rfl (by (with_reducible repeat (first | refine blk_drewN ?_ _ | refine blk_drew ?_ | refine blk_alloc ?_ _)); refine blk_put (cs := #[.int .i64 a0_0, .int .i64 0]) ?_ 1 _ rfl; (with_reducible repeat (first | refine blk_drewN ?_ _ | refine blk_drew ?_ | refine blk_alloc ?_ _)); refine blk_put (cs := #[.int .i64 0, .int .i64 0]) ?_ 0 _ rfl; (with_reducible repeat (first | refine blk_drewN ?_ _ | refine blk_drew ?_ | refine blk_alloc ?_ _)); refine blk_far ?_ NB247_248.out _; (with_reducible repeat (first | refine blk_drewN ?_ _ | refine blk_drew ?_ | refine blk_alloc ?_ _)); refine blk_far ?_ NB247_248.out _; (with_reducible repeat (first | refine blk_drewN ?_ _ | refine blk_drew ?_ | refine blk_alloc ?_ _)); exact BK247.out) Tryd.underlying58 rfl (by kernel_rfl)) rfl ?_
 exact ⟨by first | rfl | (simp [errW_none, errW_some] <;> rfl) | (simp [*, errW_none, errW_some] <;> rfl), by repeat (first | (with_reducible first | exact HB.out | apply below_alloc | apply pw_below_drewN | apply below_drew1 | refine below_set ?_ GE246.out | refine below_set ?_ GE247.out | refine below_set ?_ GE248.out) | exact HB.out)⟩

/-! ### laws_toRangeS: function 9 -/
def laws_toRangeS.l0 : Nat → List (S61) → List (S58) → Int → Option ((List (S58)))
 | 0, _, _, _ => none
 | k + 1, x0, x3, x4 => if x4 < (x0.length : Int) then (if 0 ≤ x4 then ((laws_toRange.f ((rd_T61 x0 x4).f0) ((rd_T61 x0 x4).f1)).bind fun bt253 => (if x4 < (x3.length : Int) then (laws_toRangeS.l0 k x0 (x3.set (x4 : Int).toNat (⟨bt253.1, bt253.2⟩ : S58)) (wrap64 (x4 + 1))) else (none))) else (none)) else (some x3)
def laws_toRangeS.f (k : Nat) (l0 : List (S61)) : Option ((List (S58))) := if 0 ≤ (l0.length : Int) then (if ((l0.length : Int) : Int).toNat ≤ 17592186044416 then (laws_toRangeS.l0 k l0 (List.replicate ((l0.length : Int) : Int).toNat z58) 0) else (none)) else (none)
set_option maxHeartbeats 8000000 in
set_option maxRecDepth 100000 in
theorem laws_toRangeS.calls (k : Nat) (A0 : Option Addr) (c0 : Nat) (l0 : List (S61)) (r : List (S58)) (w : World) (hr0 : Kd.C k61 w A0 l0.length l0) (hc0 : l0.length ≤ c0) (h : laws_toRangeS.f k l0 = some r) :
 Calls Tryd.prog 9 #[.slice A0 l0.length c0] w fun e w' => ∃ v0_ : Value, e = .returned (v0_) ∧ Kd.R k58 58 w' w.heap.size (fun _ => True) v0_ r ∧ Below w.heap.size w w' := by
 have hu61 := Tryd.underlying61
 have hu58 := Tryd.underlying58
 have HR0 := Aside0.mk hr0
 have HC0 := Aside0.mk hc0
 clear hr0 hc0
 have HB := Aside0.mk (Below.refl w.heap.size w)
 have H : (if 0 ≤ (l0.length : Int) then (if ((l0.length : Int) : Int).toNat ≤ 17592186044416 then (laws_toRangeS.l0 k l0 (List.replicate ((l0.length : Int) : Int).toNat z58) 0) else (none)) else (none)) = some r := h
 clear h
 by_cases c2 : 0 ≤ (l0.length : Int)
 · rw [if_pos c2] at H
   have c2b0 := eq_true c2
   have c2b1 : decide (0 ≤ (l0.length : Int)) = true := decide_eq_true c2
   clear c2
   by_cases c3 : ((l0.length : Int) : Int).toNat ≤ 17592186044416
   case neg => rw [if_neg c3] at H; exact absurd H (by simp)
   rw [if_pos c3] at H
   have c3b0 := eq_true c3
   have c3b1 : decide (((l0.length : Int) : Int).toNat ≤ 17592186044416) = true := decide_eq_true c3
   clear c3
   obtain ⟨y249, hy249⟩ : ∃ y_ : List (S58), y_ = (List.replicate ((l0.length : Int) : Int).toNat z58) := ⟨_, rfl⟩
   replace H : (laws_toRangeS.l0 k l0 y249 0) = some r := by first | (rw [hy249]; with_reducible exact H) | (have H2_ := (Option.bind_some _ _).symm.trans H; rw [hy249]; with_reducible exact H2_) | (have H2_ := (Option.bind_some _ _).symm.trans H; with_reducible exact H2_) | with_reducible exact H | (rw [hy249]; exact H) | exact H
   have Ny249 := Aside0.mk hy249
   clear hy249
   have H' := Aside0.mk H
   clear H
   go_enter Tryd.func9, Tryd.ntmps9
   go_wp2_with (first | ((with_reducible refine gate_dst (N := 7) rfl ?_); refine Kd.R_make k58 _ 58 rfl (N := 7) rfl 27 _ _ rfl (l0.length : Int) rfl rfl Tryd.underlying27 (.agg #[(.int .i64 0), (.int .i64 0)]) 16 info58 rfl (by decide) (by omega) z58 (ok := fun _ => True) (okp := fun _ => True) (k58_mkM _ _ _ z58 ) (fun _ hk => hk) trivial (of_decide_eq_true (by first | (with_reducible assumption) | assumption)) (Nat.le_trans (Nat.mul_le_mul_right _ (of_decide_eq_true (by first | (with_reducible assumption) | assumption) : (l0.length : Int).toNat ≤ 17592186044416)) (by omega)) (Below.refl _ _) (Nat.le_refl _) ?_; intro v250 w4 ho5 hb hg_ hnew_; clear hg_ hnew_; (first | rw [← Ny249.out] at ho5 | (simp only [Int.reduceToNat] at ho5; rw [← Ny249.out] at ho5)); have n0_ := Aside0.mk (Kd.R_lower ho5 (below_size (by repeat (first | (with_reducible first | exact HB.out | apply below_alloc | apply pw_below_drewN | apply below_drew1) | exact HB.out)))); have n1_ := Aside0.mk (below_step (by repeat (first | (with_reducible first | exact HB.out | apply below_alloc | apply pw_below_drewN | apply below_drew1) | exact HB.out)) hb); clear HB; have HO251 := n0_; have HB := n1_; clear n0_ n1_; clear hb ho5))
   go_loopg [4] k (fun kq v4 w' => ∃ (x3_1 : List (S58)) (x4_1 : Int), v4 = .int .i64 x4_1 ∧ Aside0 (laws_toRangeS.l0 kq l0 x3_1 x4_1 = some r) ∧ Aside0 (kq ≤ k) ∧ Aside0 (Kd.R k58 58 w' w.heap.size (fun _ => True) v250 x3_1) ∧ Aside0 (Below w.heap.size w w'))
   case atStart => exact ⟨(y249), (0), (by first | rfl | (simp; done) | (simp [*]; done) | (simp; generalize ByteArray.toList _ = zq_; cases zq_ <;> rfl)), H', ⟨Nat.le_refl _⟩, ⟨by (with_reducible repeat (first | apply Kd.R_alloc | apply Kd.R_drewN | apply Kd.R_drew)); exact HO251.out⟩, ⟨by repeat (first | (with_reducible first | exact HB.out | apply below_alloc | apply pw_below_drewN | apply below_drew1) | exact HB.out)⟩⟩
   case round =>
    clear H'
    try clear c2
    try clear c2b0
    try clear c2b1
    try clear c3
    try clear c3b0
    try clear c3b1
    obtain ⟨x3_1, x4_1, rfl, HA, HK1, HO_3, HB⟩ := hrel
    cases gk with
    | zero => exact absurd HA.out (by simp [laws_toRangeS.l0])
    | succ k1 =>
      have H := HA.out
      clear HA
      simp only [laws_toRangeS.l0] at H
      by_cases c6 : x4_1 < (l0.length : Int)
      · rw [if_pos c6] at H
        have c6b0 : decide (x4_1 < (l0.length : Int)) = true := decide_eq_true c6
        clear c6
        by_cases c7 : 0 ≤ x4_1
        case neg => rw [if_neg c7] at H; exact absurd H (by simp)
        rw [if_pos c7] at H
        have c7b0 : decide (0 ≤ x4_1) = true := decide_eq_true c7
        clear c7
        replace H := Option.bind_eq_some_iff.mp H
        obtain ⟨⟨t253, t254⟩, A80, H⟩ := H
        (try dsimp only at H)
        have A8 := Aside0.mk A80
        clear A80
        by_cases c9 : x4_1 < (x3_1.length : Int)
        case neg => rw [if_neg c9] at H; exact absurd H (by simp)
        rw [if_pos c9] at H
        have c9b0 : decide (x4_1 < (x3_1.length : Int)) = true := decide_eq_true c9
        clear c9
        obtain ⟨y255, hy255⟩ : ∃ y_ : List (S58), y_ = (x3_1.set (x4_1 : Int).toNat (⟨t253, t254⟩ : S58)) := ⟨_, rfl⟩
        replace H : (laws_toRangeS.l0 k1 l0 y255 (wrap64 (x4_1 + 1))) = some r := by first | (rw [hy255]; with_reducible exact H) | (have H2_ := (Option.bind_some _ _).symm.trans H; rw [hy255]; with_reducible exact H2_) | (have H2_ := (Option.bind_some _ _).symm.trans H; with_reducible exact H2_) | with_reducible exact H | (rw [hy255]; exact H) | exact H
        have Ny255 := Aside0.mk hy255
        clear hy255
        have H' := Aside0.mk H
        clear H
        have p252 : 0 ≤ (x4_1 : Int) := of_decide_eq_true (by first | (with_reducible assumption) | assumption)
        have q252 : x4_1 < (l0.length : Int) := of_decide_eq_true (by first | (with_reducible assumption) | assumption)
        obtain ⟨ad252, e252, hx252_0, hx252_1⟩ := at_T61 HR0.out x4_1 p252 q252
        cases e252
        replace hx252_0 := ck_ HB.out hx252_0
        replace hx252_1 := ck_ HB.out hx252_1
        replace p252 := eq_true p252
        replace q252 := eq_true q252
        go_wp2_with (first | ((with_reducible refine gate_callee (f := 34) rfl ?_); refine goesL_ (some 20) rfl rfl Tryd.func34 (by kernel_rfl) rfl #[.agg #[.int .i64 ((rd_T61 l0 x4_1).f0), .int .i64 ((rd_T61 l0 x4_1).f1)]] rfl (by (try simp only [List.map_toArray, List.map_cons, List.map_nil]); first | done | rfl | (simp only [List.length_drop, List.length_take]; rfl)) ?_; (with_reducible refine (laws_toRange.calls ((rd_T61 l0 x4_1).f0) ((rd_T61 l0 x4_1).f1) t253 t254 _ A8.out).mono ?_); rintro e w11 ⟨rfl, hb⟩; refine ⟨_, rfl, ?_⟩; have n0_ := Aside0.mk (Kd.R_below (R_up HO_3.out) hb); have n1_ := Aside0.mk (below_step (by repeat (first | (with_reducible first | exact HB.out | apply below_alloc | apply pw_below_drewN | apply below_drew1) | exact HB.out)) hb); clear HO_3; clear HB; have HO_3 := n0_; have HB := n1_; clear n0_ n1_; (try clear hb); (try clear hb2); (try clear hk); (try clear hi); have p10 : 0 ≤ (x4_1 : Int) := of_decide_eq_true (by first | (with_reducible assumption) | assumption); have q10 : (x4_1 : Int) < ((x3_1.length : Int) : Int) := of_decide_eq_true (by first | (with_reducible assumption) | assumption); obtain ⟨go10, co10, eo10, gb10, gl10, cl10, HG10⟩ := Kd.R_form HO_3.out (by omega); (first | cases eo10 | (injection eo10 with ea_ en_ ec_; (first | subst ea_ | (injection ea_ with ea_; subst ea_)); subst ec_; clear en_)); have GB10 := Aside0.mk gb10; have GG10 := Aside0.mk HG10; clear gb10 gl10 HG10; obtain ⟨ce10, hcl10, hM10, hcc10, hfr10⟩ := Kd.R_elem HO_3.out z58 (x4_1 : Int) p10 q10; obtain rfl := k58_openM hM10; have hx10_0 : w11.cell? ⟨go10, (x4_1 : Int).toNat * 2, none⟩ = some (.int .i64 ((rd_T58 x3_1 x4_1).f0)) := hcc10 0 _ rfl; have hx10_1 : w11.cell? ⟨go10, (x4_1 : Int).toNat * 2 + 1, none⟩ = some (.int .i64 ((rd_T58 x3_1 x4_1).f1)) := hcc10 1 _ rfl; have hf10_0 : w11.frozen? ⟨go10, (x4_1 : Int).toNat * 2, none⟩ = false := hfr10 0; have hf10_1 : w11.frozen? ⟨go10, (x4_1 : Int).toNat * 2 + 1, none⟩ = false := hfr10 1; clear hcl10 hcc10 hfr10 hM10; replace p10 := eq_true p10; replace q10 := eq_true q10; have HX12 := Aside0.mk (show Kd.R k58 58 w11 w.heap.size (fun _ => True) (.slice (some ⟨go10, 0, none⟩) x3_1.length co10) x3_1 from (R_up HO_3.out)); obtain ⟨ce12, hcl12, hM12, hcc12, hfr12⟩ := Kd.R_elem HX12.out z58 (x4_1 : Int) (of_decide_eq_true (by first | (with_reducible assumption) | assumption)) (by have h_ : (x4_1 : Int) < ((x3_1.length : Int) : Int) := of_decide_eq_true (by first | (with_reducible assumption) | assumption); first | exact h_ | (have e_ := (Kd.R_reads' HO_3.out).1; omega) | simpa using h_); obtain rfl := k58_openM hM12; have HP12 := Kd.R_seg HX12.out (x4_1 : Int) (of_decide_eq_true (by first | (with_reducible assumption) | assumption)) (by have h_ : (x4_1 : Int) < ((x3_1.length : Int) : Int) := of_decide_eq_true (by first | (with_reducible assumption) | assumption); first | exact h_ | (have e_ := (Kd.R_reads' HO_3.out).1; omega) | simpa using h_) (seg := [.int .i64 t253, .int .i64 t254]) (j := 0) hcl12 hcc12 (show 2 ≤ 2 from by decide) (x' := (⟨t253, t254⟩ : S58)) (k58_mkM _ _ _ (⟨t253, t254⟩ : S58) ) (fun _ hk => hk); have hx12_0 := hcc12 0 _ rfl; (try simp only [show (k58).sz = 2 from rfl, Nat.mul_one, Nat.add_zero] at hx12_0); have hf12_0 := hfr12 0; (try simp only [show (k58).sz = 2 from rfl, Nat.mul_one, Nat.add_zero] at hf12_0); have hx12_1 := hcc12 1 _ rfl; (try simp only [show (k58).sz = 2 from rfl, Nat.mul_one, Nat.add_zero] at hx12_1); have hf12_1 := hfr12 1; (try simp only [show (k58).sz = 2 from rfl, Nat.mul_one, Nat.add_zero] at hf12_1); clear hcl12 hcc12 hfr12 hM12) | ((with_reducible refine gate_store (t := 58) (p := 21) rfl ?_); refine store_event (t := 58) (p := 21) (v := ?vo_w13) (w1 := ((w11.setCell ⟨go10, (x4_1 : Int).toNat * 2, none⟩ (.int .i64 t253)).setCell ⟨go10, (x4_1 : Int).toNat * 2 + 1, none⟩ (.int .i64 t254))) ?hg ?ho ?hn ?hr ?_; (case ho => rfl); (case hg => rfl); (case hn => rfl); (case hr => first | (go_simp; done) | (go_simp; rfl)); intro w13 hw; have hg : w11.grownBy w13 (some go10) := (by rw [hw]; exact HP12.2); have hp_ : Kd.R k58 58 w13 w.heap.size (fun _ => True) (.slice (some ⟨go10, 0, none⟩) x3_1.length co10) y255 := (by rw [hw, Ny255.out]; exact HP12.1); clear HP12; have n0_ := Aside0.mk (hp_); have n1_ := Aside0.mk ((by rw [hw]; exact below_set (below_set (HB.out) GB10.out) GB10.out : Below w.heap.size w w13)); clear HO_3; clear HB; have HO_3 := n0_; have HB := n1_; clear n0_ n1_; clear hg hw hp_))
        go_roundg k1
        case measure => have := HK1.out; omega
        case rel => exact ⟨(y255), (wrap64 (x4_1 + 1)), (by first | rfl | (simp; done) | (simp [*]; done) | (simp; generalize ByteArray.toList _ = zq_; cases zq_ <;> rfl)), H', ⟨by have := HK1.out; omega⟩, ⟨by (with_reducible repeat (first | apply Kd.R_alloc | apply Kd.R_drewN | apply Kd.R_drew)); exact HO_3.out⟩, ⟨by repeat (first | (with_reducible first | exact HB.out | apply below_alloc | apply pw_below_drewN | apply below_drew1) | exact HB.out)⟩⟩
      · rw [if_neg c6] at H
        have c6b0 : decide (x4_1 < (l0.length : Int)) = false := decide_eq_false c6
        clear c6
        obtain rfl := Option.some.inj H
        go_wp2
        go_ret
        exact ⟨_, by first | rfl | (simp [errW_none, errW_some] <;> rfl) | (simp [*, errW_none, errW_some] <;> rfl), by (with_reducible repeat (first | apply Kd.R_alloc | apply Kd.R_drewN | apply Kd.R_drew)); exact HO_3.out, by repeat (first | (with_reducible first | exact HB.out | apply below_alloc | apply pw_below_drewN | apply below_drew1) | exact HB.out)⟩
 · rw [if_neg c2] at H
   exact absurd H (by simp)

end Go.Proofs.YtnehephjliankaaDoor.PFnExactTermsText

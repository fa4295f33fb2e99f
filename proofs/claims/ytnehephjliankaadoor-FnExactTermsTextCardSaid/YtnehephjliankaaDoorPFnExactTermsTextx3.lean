/- Functions of the program as Lean functions, each with the proof that its call comes to what that function says (texts written by a program of this session). Conditions: those that stand in each theorem. -/
import Derived.Test.YtnehephjliankaaDoorPFnExactTermsTextx0
namespace Go.Proofs.YtnehephjliankaaDoor.PFnExactTermsText
open Go.RowKit Go.Proofs.YtnehephjliankaaDoorW.PrintWords Go.Proofs.YtnehephjliankaaDoorW.PrintLast Go.Proofs.YtnehephjliankaaDoorW.PrintMore
attribute [local go_sem] max2_int min2_int max_two min_two max_three min_three max_four min_four   -- for this text's walks alone
set_option linter.unusedVariables false
set_option linter.unusedSimpArgs false

/-! ### spec_l12First: function 73 -/
def spec_l12First.f : Nat → List (S72) → Int → Option (Int)
 | 0, _, _ => none
 | k + 1, l0, a1 => if 0 ≤ a1 then (if a1 < (l0.length : Int) then (if ((rd_T72 l0 a1).f0) ≥ 9 then ((spec_l12First.f k l0 ((rd_T72 l0 a1).f4)).bind fun t144 => (some t144)) else (some a1)) else (none)) else (none)
set_option maxHeartbeats 8000000 in
set_option maxRecDepth 100000 in
theorem spec_l12First.calls (k : Nat) : ∀ (A0 : Option Addr) (c0 : Nat) (l0 : List (S72)) (a1 : Int) (r : Int) (w : World) (hr0 : Kd.C k72 w A0 l0.length l0) (hc0 : l0.length ≤ c0) (h : spec_l12First.f k l0 a1 = some r),
 Calls Tryd.prog 73 #[.slice A0 l0.length c0, .int .i64 a1] w fun e w' => e = .returned (.int .i64 r) ∧ Below w.heap.size w w' := by
 induction k using Nat.strongRecOn with
 | _ k ih =>
 intro A0 c0 l0 a1 r w hr0 hc0 h
 cases k with
 | zero => exact absurd h (by simp [spec_l12First.f])
 | succ k =>
 simp only [spec_l12First.f] at h
 have HR0 := Aside0.mk hr0
 have HC0 := Aside0.mk hc0
 clear hr0 hc0
 have HB := Aside0.mk (Below.refl w.heap.size w)
 have H : (if 0 ≤ a1 then (if a1 < (l0.length : Int) then (if ((rd_T72 l0 a1).f0) ≥ 9 then ((spec_l12First.f k l0 ((rd_T72 l0 a1).f4)).bind fun t144 => (some t144)) else (some a1)) else (none)) else (none)) = some r := h
 clear h
 by_cases c3 : 0 ≤ a1
 · rw [if_pos c3] at H
   have c3b0 : decide (0 ≤ a1) = true := decide_eq_true c3
   clear c3
   by_cases c4 : a1 < (l0.length : Int)
   · rw [if_pos c4] at H
     have c4b0 : decide (a1 < (l0.length : Int)) = true := decide_eq_true c4
     clear c4
     by_cases c5 : ((rd_T72 l0 a1).f0) ≥ 9
     · rw [if_pos c5] at H
       have c5b0 : decide (9 ≤ ((rd_T72 l0 a1).f0)) = true := decide_eq_true c5
       clear c5
       replace H := Option.bind_eq_some_iff.mp H
       obtain ⟨t144, A60, H⟩ := H
       replace H : (some t144) = some r := H
       have A6 := Aside0.mk A60
       clear A60
       obtain rfl := Option.some.inj H
       have p142 : 0 ≤ (a1 : Int) := of_decide_eq_true (by first | (with_reducible assumption) | assumption)
       have q142 : a1 < (l0.length : Int) := of_decide_eq_true (by first | (with_reducible assumption) | assumption)
       obtain ⟨ad142, A142_2, c142_2, A142_3, c142_3, e142, hx142_0, hx142_1, hx142_2, hx142_3, hx142_4, hx142_5, hl142_2, hi142_2, hl142_3, hi142_3⟩ := at_T72 HR0.out a1 p142 q142
       cases e142
       have HR142_2 := Aside0.mk hi142_2
       have HC142_2 := Aside0.mk hl142_2
       clear hi142_2 hl142_2
       have HR142_3 := Aside0.mk hi142_3
       have HC142_3 := Aside0.mk hl142_3
       clear hi142_3 hl142_3
       replace p142 := eq_true p142
       replace q142 := eq_true q142
       have p143 : 0 ≤ (a1 : Int) := of_decide_eq_true (by first | (with_reducible assumption) | assumption)
       have q143 : a1 < (l0.length : Int) := of_decide_eq_true (by first | (with_reducible assumption) | assumption)
       obtain ⟨ad143, A143_2, c143_2, A143_3, c143_3, e143, hx143_0, hx143_1, hx143_2, hx143_3, hx143_4, hx143_5, hl143_2, hi143_2, hl143_3, hi143_3⟩ := at_T72 HR0.out a1 p143 q143
       obtain rfl : ad142 = ad143 := (by injection e143)
       have HR143_2 := Aside0.mk hi143_2
       have HC143_2 := Aside0.mk hl143_2
       clear hi143_2 hl143_2
       have HR143_3 := Aside0.mk hi143_3
       have HC143_3 := Aside0.mk hl143_3
       clear hi143_3 hl143_3
       replace p143 := eq_true p143
       replace q143 := eq_true q143
       have ea_ := Option.some.inj (hx142_2.symm.trans hx143_2)
       injection ea_ with ea_ en_ ec_
       subst ea_
       subst ec_
       clear en_
       have ea_ := Option.some.inj (hx142_3.symm.trans hx143_3)
       injection ea_ with ea_ en_ ec_
       subst ea_
       subst ec_
       clear en_
       (try clear hx143_0)
       (try clear hx143_1)
       (try clear hx143_2)
       (try clear hx143_3)
       (try clear hx143_4)
       (try clear hx143_5)
       (try clear qi143)
       go_enter Tryd.func73, Tryd.ntmps73
       go_wp2_with (first | ((with_reducible refine gate_callee (f := 73) rfl ?_); refine goesL_ (some 17) rfl rfl Tryd.func73 (by kernel_rfl) rfl #[.slice (some ad142) l0.length c0, .int .i64 ((rd_T72 l0 a1).f4)] rfl (by (try simp only [List.map_toArray, List.map_cons, List.map_nil]); first | done | rfl | (simp only [List.length_drop, List.length_take]; rfl)) ?_; (with_reducible refine (ih k (by omega) _ _ l0 ((rd_T72 l0 a1).f4) t144 _ ?side1 ?side2 A6.out).mono ?_); (case side1 => exact C_up HR0.out); (case side2 => exact HC0.out); rintro e w7 ⟨rfl, hb⟩; refine ⟨_, rfl, ?_⟩; have n0_ := Aside0.mk (below_step (HB_up HB.out) hb); clear HB; have HB := n0_; clear n0_; (try clear hb); (try clear hb2); (try clear hk); (try clear hi)))
       go_ret
       exact ⟨by first | rfl | (simp [errW_none, errW_some] <;> rfl) | (simp [*, errW_none, errW_some] <;> rfl), by repeat (first | (with_reducible first | exact HB.out | apply below_alloc | apply pw_below_drewN | apply below_drew1) | exact HB.out)⟩
     · rw [if_neg c5] at H
       have c5b0 : decide (9 ≤ ((rd_T72 l0 a1).f0)) = false := decide_eq_false c5
       clear c5
       obtain rfl := Option.some.inj H
       have p142 : 0 ≤ (a1 : Int) := of_decide_eq_true (by first | (with_reducible assumption) | assumption)
       have q142 : a1 < (l0.length : Int) := of_decide_eq_true (by first | (with_reducible assumption) | assumption)
       obtain ⟨ad142, A142_2, c142_2, A142_3, c142_3, e142, hx142_0, hx142_1, hx142_2, hx142_3, hx142_4, hx142_5, hl142_2, hi142_2, hl142_3, hi142_3⟩ := at_T72 HR0.out a1 p142 q142
       cases e142
       have HR142_2 := Aside0.mk hi142_2
       have HC142_2 := Aside0.mk hl142_2
       clear hi142_2 hl142_2
       have HR142_3 := Aside0.mk hi142_3
       have HC142_3 := Aside0.mk hl142_3
       clear hi142_3 hl142_3
       replace p142 := eq_true p142
       replace q142 := eq_true q142
       go_enter Tryd.func73, Tryd.ntmps73
       go_wp2
       go_ret
       exact ⟨by first | rfl | (simp [errW_none, errW_some] <;> rfl) | (simp [*, errW_none, errW_some] <;> rfl), by repeat (first | (with_reducible first | exact HB.out | apply below_alloc | apply pw_below_drewN | apply below_drew1) | exact HB.out)⟩
   · rw [if_neg c4] at H
     exact absurd H (by simp)
 · rw [if_neg c3] at H
   exact absurd H (by simp)

end Go.Proofs.YtnehephjliankaaDoor.PFnExactTermsText

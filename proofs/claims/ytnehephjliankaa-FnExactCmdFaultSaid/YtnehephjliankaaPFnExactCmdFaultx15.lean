/- Functions of the program as Lean functions, each with the proof that its call comes to what that function says (texts written by a program of this session). Conditions: those that stand in each theorem. -/
import Derived.Test.YtnehephjliankaaPFnExactCmdFaultx0
import Derived.Test.YtnehephjliankaaPFnExactCmdFaultx1
import Derived.Test.YtnehephjliankaaPFnExactCmdFaultx7
import Derived.Test.YtnehephjliankaaPFnExactCmdFaultx8
import Derived.Test.YtnehephjliankaaPFnExactCmdFaultx14
namespace Go.Proofs.Ytnehephjliankaa.PFnExactCmdFault
open Go.RowKit Go.Proofs.YtnehephjliankaaW.PrintWords Go.Proofs.YtnehephjliankaaW.PrintLast Go.Proofs.YtnehephjliankaaW.PrintMore
attribute [local go_sem] max2_int min2_int max_two min_two max_three min_three max_four min_four   -- for this text's walks alone
set_option linter.unusedVariables false
set_option linter.unusedSimpArgs false

/-! ### laws_eqTermS: function 49 -/
def laws_eqTermS.l0 : Nat → List (S104) → List (S104) → Int → Option (Bool)
 | 0, _, _, _ => none
 | k + 1, x0, x1, x5 => if x5 < (x0.length : Int) then (if 0 ≤ x5 then (if x5 < (x1.length : Int) then ((laws_eqTerm.f k ((rd_T104 x0 x5).f0) ((rd_T104 x0 x5).f1) ((rd_T104 x0 x5).f2) ((rd_T104 x0 x5).f3) ((rd_T104 x0 x5).f4) ((rd_T104 x0 x5).f5) ((rd_T104 x1 x5).f0) ((rd_T104 x1 x5).f1) ((rd_T104 x1 x5).f2) ((rd_T104 x1 x5).f3) ((rd_T104 x1 x5).f4) ((rd_T104 x1 x5).f5)).bind fun t455 => (if t455 = true then (laws_eqTermS.l0 k x0 x1 (wrap64 (x5 + 1))) else (none))) else (none)) else (none)) else (some true)
def laws_eqTermS.f (k : Nat) (l0 : List (S104)) (l1 : List (S104)) : Option (Bool) := if (l0.length : Int) = (l1.length : Int) then (laws_eqTermS.l0 k l0 l1 0) else (none)
def laws_eqTermS.T6 : Bool × List (List Nat × List Nat) := (true, [([], []), ([], []), ([0, 1], [0, 1]), ([2], [2]), ([], []), ([], []), ([4, 5], [4, 5]), ([6], [6]), ([3, 7], [3, 7]), ([8], [8])])
def laws_eqTermS.B6 : List Nat := [0, 0, 3, 7, 0, 0, 48, 112, 255, 511]
theorem laws_eqTermS.tab6 : rtab .any (opsOf Try.f49 6) = laws_eqTermS.T6 := by kernel_rfl
theorem laws_eqTermS.bits6 : waitsOk laws_eqTermS.T6.2 laws_eqTermS.B6 = true := by kernel_rfl
set_option maxHeartbeats 8000000 in
set_option maxRecDepth 100000 in
theorem laws_eqTermS.calls (k : Nat) (A0 : Option Addr) (c0 : Nat) (l0 : List (S104)) (A1 : Option Addr) (c1 : Nat) (l1 : List (S104)) (r : Bool) (w : World) (hr0 : Kd.C k104 w A0 l0.length l0) (hc0 : l0.length ≤ c0) (hr1 : Kd.C k104 w A1 l1.length l1) (hc1 : l1.length ≤ c1) (h : laws_eqTermS.f k l0 l1 = some r) :
 Calls Try.prog 49 #[.slice A0 l0.length c0, .slice A1 l1.length c1] w fun e w' => e = .returned (.bool r) ∧ Below w.heap.size w w' := by
 have hu104 := Try.underlying104
 have HR0 := Aside0.mk hr0
 have HC0 := Aside0.mk hc0
 clear hr0 hc0
 have HR1 := Aside0.mk hr1
 have HC1 := Aside0.mk hc1
 clear hr1 hc1
 have HB := Aside0.mk (Below.refl w.heap.size w)
 have H : (if (l0.length : Int) = (l1.length : Int) then (laws_eqTermS.l0 k l0 l1 0) else (none)) = some r := h
 clear h
 by_cases c3 : (l0.length : Int) = (l1.length : Int)
 ·
  rw [if_pos c3] at H
  have c3b0 : ((l0.length : Int) == (l1.length : Int)) = true := beq_iff_eq.mpr c3
  have c3b1 : ((l0.length : Int) != (l1.length : Int)) = false := bne_eq_false_iff_eq.mpr c3
  have c3b2 : (l0.length == l1.length) = true := by first | simpa using c3 | (simp at c3 ⊢; omega)
  clear c3
  have H' := Aside0.mk H
  clear H
  go_enter Try.func49, Try.ntmps49
  go_wp2
  go_loopg [5] k (fun kq v5 w' => ∃ (x5_1 : Int), v5 = .int .i64 x5_1 ∧ Aside0 (laws_eqTermS.l0 kq l0 l1 x5_1 = some r) ∧ Aside0 (kq ≤ k) ∧ Aside0 (Below w.heap.size w w'))
  case atStart => exact ⟨(0), vl_, H', ⟨Nat.le_refl _⟩, ⟨hb_⟩⟩
  case round =>
   clear H'
   try clear c1
   try clear c3
   try clear c3b0
   try clear c3b1
   try clear c3b2
   obtain ⟨x5_1, rfl, HA, HK1, HB⟩ := hrel
   cases gk with
   | zero => exact absurd HA.out (by simp [laws_eqTermS.l0])
   | succ k1 =>
     have H := HA.out
     clear HA
     simp only [laws_eqTermS.l0] at H
     by_cases c4 : x5_1 < (l0.length : Int)
     ·
      rw [if_pos c4] at H
      have c4b0 : decide (x5_1 < (l0.length : Int)) = true := decide_eq_true c4
      clear c4
      by_cases c5 : 0 ≤ x5_1
      case neg => rw [if_neg c5] at H; exact absurd H (by simp)
      rw [if_pos c5] at H
      have c5b0 : decide (0 ≤ x5_1) = true := decide_eq_true c5
      clear c5
      by_cases c6 : x5_1 < (l1.length : Int)
      case neg => rw [if_neg c6] at H; exact absurd H (by simp)
      rw [if_pos c6] at H
      have c6b0 : decide (x5_1 < (l1.length : Int)) = true := decide_eq_true c6
      clear c6
      replace H := Option.bind_eq_some_iff.mp H
      obtain ⟨t455, A70, H⟩ := H
      (try dsimp only at H)
      have A7 := Aside0.mk A70
      clear A70
      by_cases c8 : t455 = true
      ·
       subst c8
       (try rw [if_pos rfl] at H)
       have H' := Aside0.mk H
       clear H
       try go_wp2
       replace HB := Aside0.mk (below_drew1 HB.out)
       have p453 : 0 ≤ (x5_1 : Int) := od_
       have q453 : x5_1 < (l0.length : Int) := od_
       obtain ⟨ad453, A453_2, c453_2, A453_3, c453_3, e453, hx453_0, hx453_1, hx453_2, hx453_3, hx453_4, hx453_5, hl453_2, hi453_2, hl453_3, hi453_3⟩ := at_T104 HR0.out x5_1 p453 q453
       have hw453_5 := hx453_5
       have hw453_4 := hx453_4
       have hw453_3 := hx453_3
       have hw453_2 := hx453_2
       have hw453_1 := hx453_1
       have hw453_0 := hx453_0
       cases e453
       replace hx453_0 := ck_ HB.out hx453_0
       replace hx453_1 := ck_ HB.out hx453_1
       replace hx453_2 := ck_ HB.out hx453_2
       replace hx453_3 := ck_ HB.out hx453_3
       replace hx453_4 := ck_ HB.out hx453_4
       replace hx453_5 := ck_ HB.out hx453_5
       have HR453_2 := Aside0.mk hi453_2
       have HC453_2 := Aside0.mk hl453_2
       clear hi453_2 hl453_2
       have HR453_3 := Aside0.mk hi453_3
       have HC453_3 := Aside0.mk hl453_3
       clear hi453_3 hl453_3
       replace p453 := eq_true p453
       replace q453 := eq_true q453
       have p454 : 0 ≤ (x5_1 : Int) := od_
       have q454 : x5_1 < (l1.length : Int) := od_
       obtain ⟨ad454, A454_2, c454_2, A454_3, c454_3, e454, hx454_0, hx454_1, hx454_2, hx454_3, hx454_4, hx454_5, hl454_2, hi454_2, hl454_3, hi454_3⟩ := at_T104 HR1.out x5_1 p454 q454
       have hw454_5 := hx454_5
       have hw454_4 := hx454_4
       have hw454_3 := hx454_3
       have hw454_2 := hx454_2
       have hw454_1 := hx454_1
       have hw454_0 := hx454_0
       cases e454
       replace hx454_0 := ck_ HB.out hx454_0
       replace hx454_1 := ck_ HB.out hx454_1
       replace hx454_2 := ck_ HB.out hx454_2
       replace hx454_3 := ck_ HB.out hx454_3
       replace hx454_4 := ck_ HB.out hx454_4
       replace hx454_5 := ck_ HB.out hx454_5
       have HR454_2 := Aside0.mk hi454_2
       have HC454_2 := Aside0.mk hl454_2
       clear hi454_2 hl454_2
       have HR454_3 := Aside0.mk hi454_3
       have HC454_3 := Aside0.mk hl454_3
       clear hi454_3 hl454_3
       replace p454 := eq_true p454
       replace q454 := eq_true q454
       refine start_ (n := 10) (S := fun w' => w'.cell? (ad453.add ((x5_1).toNat * 6)) = some (.int .i64 ((rd_T104 l0 x5_1).f0)) ∧ w'.cell? ⟨(ad453.add ((x5_1).toNat * 6)).block, (ad453.add ((x5_1).toNat * 6)).off + 1, none⟩ = some (.int .i64 ((rd_T104 l0 x5_1).f1)) ∧ w'.cell? ⟨(ad453.add ((x5_1).toNat * 6)).block, (ad453.add ((x5_1).toNat * 6)).off + 2, none⟩ = some (.slice A453_2 ((rd_T104 l0 x5_1).f2).length c453_2) ∧ w'.cell? ⟨(ad453.add ((x5_1).toNat * 6)).block, (ad453.add ((x5_1).toNat * 6)).off + 3, none⟩ = some (.slice A453_3 ((rd_T104 l0 x5_1).f3).length c453_3) ∧ w'.cell? ⟨(ad453.add ((x5_1).toNat * 6)).block, (ad453.add ((x5_1).toNat * 6)).off + 4, none⟩ = some (.int .i64 ((rd_T104 l0 x5_1).f4)) ∧ w'.cell? ⟨(ad453.add ((x5_1).toNat * 6)).block, (ad453.add ((x5_1).toNat * 6)).off + 5, none⟩ = some (.int .i64 ((rd_T104 l0 x5_1).f5)) ∧ w'.cell? (ad454.add ((x5_1).toNat * 6)) = some (.int .i64 ((rd_T104 l1 x5_1).f0)) ∧ w'.cell? ⟨(ad454.add ((x5_1).toNat * 6)).block, (ad454.add ((x5_1).toNat * 6)).off + 1, none⟩ = some (.int .i64 ((rd_T104 l1 x5_1).f1)) ∧ w'.cell? ⟨(ad454.add ((x5_1).toNat * 6)).block, (ad454.add ((x5_1).toNat * 6)).off + 2, none⟩ = some (.slice A454_2 ((rd_T104 l1 x5_1).f2).length c454_2) ∧ w'.cell? ⟨(ad454.add ((x5_1).toNat * 6)).block, (ad454.add ((x5_1).toNat * 6)).off + 3, none⟩ = some (.slice A454_3 ((rd_T104 l1 x5_1).f3).length c454_3) ∧ w'.cell? ⟨(ad454.add ((x5_1).toNat * 6)).block, (ad454.add ((x5_1).toNat * 6)).off + 4, none⟩ = some (.int .i64 ((rd_T104 l1 x5_1).f4)) ∧ w'.cell? ⟨(ad454.add ((x5_1).toNat * 6)).block, (ad454.add ((x5_1).toNat * 6)).off + 5, none⟩ = some (.int .i64 ((rd_T104 l1 x5_1).f5))) (ds := []) #[false, false, false, false, false, false, false, false, false, false] (by kernel_rfl) rfl rfl ⟨(ck_ HB.out hw453_0), (ck_ HB.out hw453_1), (ck_ HB.out hw453_2), (ck_ HB.out hw453_3), (ck_ HB.out hw453_4), (ck_ HB.out hw453_5), (ck_ HB.out hw454_0), (ck_ HB.out hw454_1), (ck_ HB.out hw454_2), (ck_ HB.out hw454_3), (ck_ HB.out hw454_4), (ck_ HB.out hw454_5)⟩ (fun hHeld => ?_); refine with_tabW laws_eqTermS.tab6 laws_eqTermS.bits6 (fun HT_ HW_ => ?_)
       generalize wr.drew = w9 at HB HR453_2 HR453_3 HR454_2 HR454_3 hx453_0 hx453_1 hx453_2 hx453_3 hx453_4 hx453_5 hx454_0 hx454_1 hx454_2 hx454_3 hx454_4 hx454_5 hHeld ⊢
       refine pu_ (i := 0) (N := some 17) (v := ?_) (a' := ?_) rfl rfl (any_of HT_.out (by kernel_rfl)) (fun _ _ _ h => h) (Or.inl ⟨by rfl, ?_⟩) ?_ ?_; rotate_left
       · intro w'; go_simp; all_goals (first | with_reducible rfl | (simp [Instr.field, go_sem]; rfl))
       rotate_left
       · simp only [Act.put, List.setIfInBounds_toArray, List.set_cons_zero, List.set_cons_succ, i64_w, i32_w]; rfl
       refine pu_ (i := 1) (N := some 18) (v := ?_) (a' := ?_) rfl rfl (any_of HT_.out (by kernel_rfl)) (fun _ _ _ h => h) (Or.inl ⟨by rfl, ?_⟩) ?_ ?_; rotate_left
       · intro w'; go_simp; all_goals (first | with_reducible rfl | (simp [Instr.field, go_sem]; rfl))
       rotate_left
       · simp only [Act.put, List.setIfInBounds_toArray, List.set_cons_zero, List.set_cons_succ, i64_w, i32_w]; rfl
       refine pu_ (i := 2) (N := some 19) (v := ?_) (a' := ?_) rfl rfl (any_of HT_.out (by kernel_rfl)) (fun _ _ _ h => h) (Or.inl ⟨by rfl, ?_⟩) ?_ ?_; rotate_left
       · intro w'; go_simp; all_goals (first | with_reducible rfl | (simp [Instr.field, go_sem]; rfl))
       rotate_left
       · simp only [Act.put, List.setIfInBounds_toArray, List.set_cons_zero, List.set_cons_succ, i64_w, i32_w]; rfl
       refine pu_ (i := 4) (N := some 21) (v := ?_) (a' := ?_) rfl rfl (any_of HT_.out (by kernel_rfl)) (fun _ _ _ h => h) (Or.inl ⟨by rfl, ?_⟩) ?_ ?_; rotate_left
       · intro w'; go_simp; all_goals (first | with_reducible rfl | (simp [Instr.field, go_sem]; rfl))
       rotate_left
       · simp only [Act.put, List.setIfInBounds_toArray, List.set_cons_zero, List.set_cons_succ, i64_w, i32_w]; rfl
       refine pu_ (i := 5) (N := some 22) (v := ?_) (a' := ?_) rfl rfl (any_of HT_.out (by kernel_rfl)) (fun _ _ _ h => h) (Or.inl ⟨by rfl, ?_⟩) ?_ ?_; rotate_left
       · intro w'; go_simp; all_goals (first | with_reducible rfl | (simp [Instr.field, go_sem]; rfl))
       rotate_left
       · simp only [Act.put, List.setIfInBounds_toArray, List.set_cons_zero, List.set_cons_succ, i64_w, i32_w]; rfl
       refine pu_ (i := 6) (N := some 23) (v := ?_) (a' := ?_) rfl rfl (any_of HT_.out (by kernel_rfl)) (fun _ _ _ h => h) (Or.inl ⟨by rfl, ?_⟩) ?_ ?_; rotate_left
       · intro w'; go_simp; all_goals (first | with_reducible rfl | (simp [Instr.field, go_sem]; rfl))
       rotate_left
       · simp only [Act.put, List.setIfInBounds_toArray, List.set_cons_zero, List.set_cons_succ, i64_w, i32_w]; rfl
       refine ta_ (i := 3) (N := some 20) (v := ?_) (a' := ?_) rfl rfl (take_ofW HT_.out HW_.out (by kernel_rfl)) (fun _ _ _ h => h) (Or.inl ⟨by rfl, ?_⟩) hHeld ?_ ?_; rotate_left
       · rintro w' ⟨s0, s1, s2, s3, s4, s5, s6, s7, s8, s9, s10, s11⟩; go_simp; all_goals (first | with_reducible rfl | (simp [Instr.field, go_sem]; rfl))
       rotate_left
       · simp only [Act.put, List.setIfInBounds_toArray, List.set_cons_zero, List.set_cons_succ, i64_w, i32_w]; rfl
       refine ta_ (i := 7) (N := some 24) (v := ?_) (a' := ?_) rfl rfl (take_ofW HT_.out HW_.out (by kernel_rfl)) (fun _ _ _ h => h) (Or.inl ⟨by rfl, ?_⟩) hHeld ?_ ?_; rotate_left
       · rintro w' ⟨s0, s1, s2, s3, s4, s5, s6, s7, s8, s9, s10, s11⟩; go_simp; all_goals (first | with_reducible rfl | (simp [Instr.field, go_sem]; rfl))
       rotate_left
       · simp only [Act.put, List.setIfInBounds_toArray, List.set_cons_zero, List.set_cons_succ, i64_w, i32_w]; rfl
       refine on_ (i := 8) (N := some 25) rfl rfl (one_of HT_.out (by kernel_rfl)) (by decide) (fun K hK => ?_)
       refine goes_ Try.func96 (by kernel_rfl) rfl #[.agg #[.int .i64 ((rd_T104 l0 x5_1).f0), .int .i64 ((rd_T104 l0 x5_1).f1), .slice A453_2 ((rd_T104 l0 x5_1).f2).length c453_2, .slice A453_3 ((rd_T104 l0 x5_1).f3).length c453_3, .int .i64 ((rd_T104 l0 x5_1).f4), .int .i64 ((rd_T104 l0 x5_1).f5)], .agg #[.int .i64 ((rd_T104 l1 x5_1).f0), .int .i64 ((rd_T104 l1 x5_1).f1), .slice A454_2 ((rd_T104 l1 x5_1).f2).length c454_2, .slice A454_3 ((rd_T104 l1 x5_1).f3).length c454_3, .int .i64 ((rd_T104 l1 x5_1).f4), .int .i64 ((rd_T104 l1 x5_1).f5)]] (by rfl) rfl rfl (by (try simp only [List.map_toArray, List.map_cons, List.map_nil]); first | done | rfl | (simp only [List.length_drop, List.length_take]; rfl)) ?_
       with_reducible refine (laws_eqTerm.calls k1 ((rd_T104 l0 x5_1).f0) ((rd_T104 l0 x5_1).f1) _ _ ((rd_T104 l0 x5_1).f2) _ _ ((rd_T104 l0 x5_1).f3) ((rd_T104 l0 x5_1).f4) ((rd_T104 l0 x5_1).f5) ((rd_T104 l1 x5_1).f0) ((rd_T104 l1 x5_1).f1) _ _ ((rd_T104 l1 x5_1).f2) _ _ ((rd_T104 l1 x5_1).f3) ((rd_T104 l1 x5_1).f4) ((rd_T104 l1 x5_1).f5) true _ ?side1 ?side2 ?side3 ?side4 ?side5 ?side6 ?side7 ?side8 A7.out).mono ?_
       (case side1 => exact C_up (Kd.C_below HR453_2.out HB.out))
       (case side2 => exact HC453_2.out)
       (case side3 => exact C_up (Kd.C_below HR453_3.out HB.out))
       (case side4 => exact HC453_3.out)
       (case side5 => exact C_up (Kd.C_below HR454_2.out HB.out))
       (case side6 => exact HC454_2.out)
       (case side7 => exact C_up (Kd.C_below HR454_3.out HB.out))
       (case side8 => exact HC454_3.out)
       rintro e w10 ⟨rfl, hb⟩
       refine ⟨_, rfl, ?_⟩
       replace HB := Aside0.mk (below_step (HB_up HB.out) hb)
       (try clear hb)
       refine hK.out _ _ ⟨(ck_ HB.out hw453_0), (ck_ HB.out hw453_1), (ck_ HB.out hw453_2), (ck_ HB.out hw453_3), (ck_ HB.out hw453_4), (ck_ HB.out hw453_5), (ck_ HB.out hw454_0), (ck_ HB.out hw454_1), (ck_ HB.out hw454_2), (ck_ HB.out hw454_3), (ck_ HB.out hw454_4), (ck_ HB.out hw454_5)⟩ (fun hHeld => ?_)
       clear hK K
       refine norm_ (a' := ?_) ?_ ?_
       rotate_left
       · show Act.put _ (some 25) _ = _
         simp only [Act.put, List.setIfInBounds_toArray, List.set_cons_zero, List.set_cons_succ, i64_w, i32_w]
         rfl
       refine pu_ (i := 9) (N := some 26) (v := ?_) (a' := ?_) rfl rfl (any_of HT_.out (by kernel_rfl)) (fun _ _ _ h => h) (Or.inl ⟨by rfl, ?_⟩) ?_ ?_; rotate_left
       · intro w'; go_simp; all_goals (first | with_reducible rfl | (simp [Instr.field, go_sem]; rfl))
       rotate_left
       · simp only [Act.put, List.setIfInBounds_toArray, List.set_cons_zero, List.set_cons_succ, i64_w, i32_w]; rfl
       refine done_ (done_of HT_.out (by kernel_rfl)) ?_
       try go_wp2
       go_roundg k1
       case measure => have := HK1.out; omega
       case rel => exact ⟨(wrap64 (x5_1 + 1)), vl_, H', ⟨by have := HK1.out; omega⟩, ⟨hb_⟩⟩
      · replace c8 := Bool.eq_false_iff.mpr c8
        subst c8
        (try rw [if_neg (show ¬ (false = true) by decide)] at H)
        exact absurd H (by simp)
     ·
      rw [if_neg c4] at H
      have c4b0 : decide (x5_1 < (l0.length : Int)) = false := decide_eq_false c4
      clear c4
      obtain rfl := Option.some.inj H
      go_wp2
      go_ret
      exact ⟨ve_, hb_⟩
 · rw [if_neg c3] at H
   exact absurd H (by simp)

/-! ### laws_eqCmd: function 10 -/
def laws_eqCmd.f (k : Nat) (a0_0 : ByteArray) (a0_1 : Int) (a0_2 : ByteArray) (l0_3 : List (S100)) (a0_4 : Int) (a0_5 : Int) (a0_6 : Int) (l0_7 : List Int) (a0_8 : Int) (l0_9 : List Int) (a0_10 : Int) (a0_11 : Bool) (l0_12 : List (S104)) (a0_13 : Int) (a1_0 : ByteArray) (a1_1 : Int) (a1_2 : ByteArray) (l1_3 : List (S100)) (a1_4 : Int) (a1_5 : Int) (a1_6 : Int) (l1_7 : List Int) (a1_8 : Int) (l1_9 : List Int) (a1_10 : Int) (a1_11 : Bool) (l1_12 : List (S104)) (a1_13 : Int) : Option (Bool) := if a0_0.toList = a1_0.toList then (if a0_1 = a1_1 then (if a0_2.toList = a1_2.toList then ((laws_eqRangeS.f k l0_3 l1_3).bind fun t458 => (if t458 = true then (if a0_4 = a1_4 then (if a0_5 = a1_5 then (if a0_6 = a1_6 then ((laws_eqByteS.f k l0_7 l1_7).bind fun t459 => (if t459 = true then (if a0_8 = a1_8 then ((laws_eqInt64S.f k l0_9 l1_9).bind fun t460 => (if t460 = true then (if a0_10 = a1_10 then (if (a0_11 != a1_11) = true then (none) else ((laws_eqTermS.f k l0_12 l1_12).bind fun t461 => (if t461 = true then (if a0_13 = a1_13 then (some true) else (none)) else (none)))) else (none)) else (none))) else (none)) else (none))) else (none)) else (none)) else (none)) else (none))) else (none)) else (none)) else (none)
set_option maxHeartbeats 8000000 in
set_option maxRecDepth 100000 in
theorem laws_eqCmd.calls (k : Nat) (a0_0 : ByteArray) (a0_1 : Int) (a0_2 : ByteArray) (A0_3 : Option Addr) (c0_3 : Nat) (l0_3 : List (S100)) (a0_4 : Int) (a0_5 : Int) (a0_6 : Int) (A0_7 : Option Addr) (c0_7 : Nat) (l0_7 : List Int) (a0_8 : Int) (A0_9 : Option Addr) (c0_9 : Nat) (l0_9 : List Int) (a0_10 : Int) (a0_11 : Bool) (A0_12 : Option Addr) (c0_12 : Nat) (l0_12 : List (S104)) (a0_13 : Int) (a1_0 : ByteArray) (a1_1 : Int) (a1_2 : ByteArray) (A1_3 : Option Addr) (c1_3 : Nat) (l1_3 : List (S100)) (a1_4 : Int) (a1_5 : Int) (a1_6 : Int) (A1_7 : Option Addr) (c1_7 : Nat) (l1_7 : List Int) (a1_8 : Int) (A1_9 : Option Addr) (c1_9 : Nat) (l1_9 : List Int) (a1_10 : Int) (a1_11 : Bool) (A1_12 : Option Addr) (c1_12 : Nat) (l1_12 : List (S104)) (a1_13 : Int) (r : Bool) (w : World) (hr0_3 : Kd.C k100 w A0_3 l0_3.length l0_3) (hc0_3 : l0_3.length ≤ c0_3) (hr0_7 : Kd.C (Kd.int .u8) w A0_7 l0_7.length l0_7) (hc0_7 : l0_7.length ≤ c0_7) (hr0_9 : Kd.C (Kd.int .i64) w A0_9 l0_9.length l0_9) (hc0_9 : l0_9.length ≤ c0_9) (hr0_12 : Kd.C k104 w A0_12 l0_12.length l0_12) (hc0_12 : l0_12.length ≤ c0_12) (hr1_3 : Kd.C k100 w A1_3 l1_3.length l1_3) (hc1_3 : l1_3.length ≤ c1_3) (hr1_7 : Kd.C (Kd.int .u8) w A1_7 l1_7.length l1_7) (hc1_7 : l1_7.length ≤ c1_7) (hr1_9 : Kd.C (Kd.int .i64) w A1_9 l1_9.length l1_9) (hc1_9 : l1_9.length ≤ c1_9) (hr1_12 : Kd.C k104 w A1_12 l1_12.length l1_12) (hc1_12 : l1_12.length ≤ c1_12) (h : laws_eqCmd.f k a0_0 a0_1 a0_2 l0_3 a0_4 a0_5 a0_6 l0_7 a0_8 l0_9 a0_10 a0_11 l0_12 a0_13 a1_0 a1_1 a1_2 l1_3 a1_4 a1_5 a1_6 l1_7 a1_8 l1_9 a1_10 a1_11 l1_12 a1_13 = some r) :
 Calls Try.prog 10 #[.agg #[.string a0_0, .int .i64 a0_1, .string a0_2, .slice A0_3 l0_3.length c0_3, .int .i64 a0_4, .int .i64 a0_5, .int .i64 a0_6, .slice A0_7 l0_7.length c0_7, .int .i64 a0_8, .slice A0_9 l0_9.length c0_9, .int .i64 a0_10, .bool a0_11, .slice A0_12 l0_12.length c0_12, .int .i64 a0_13], .agg #[.string a1_0, .int .i64 a1_1, .string a1_2, .slice A1_3 l1_3.length c1_3, .int .i64 a1_4, .int .i64 a1_5, .int .i64 a1_6, .slice A1_7 l1_7.length c1_7, .int .i64 a1_8, .slice A1_9 l1_9.length c1_9, .int .i64 a1_10, .bool a1_11, .slice A1_12 l1_12.length c1_12, .int .i64 a1_13]] w fun e w' => e = .returned (.bool r) ∧ Below w.heap.size w w' := by
 have hu33 := Try.underlying33
 have HR0_3 := Aside0.mk hr0_3
 have HC0_3 := Aside0.mk hc0_3
 clear hr0_3 hc0_3
 have HR0_7 := Aside0.mk hr0_7
 have HC0_7 := Aside0.mk hc0_7
 clear hr0_7 hc0_7
 have HR0_9 := Aside0.mk hr0_9
 have HC0_9 := Aside0.mk hc0_9
 clear hr0_9 hc0_9
 have HR0_12 := Aside0.mk hr0_12
 have HC0_12 := Aside0.mk hc0_12
 clear hr0_12 hc0_12
 have HR1_3 := Aside0.mk hr1_3
 have HC1_3 := Aside0.mk hc1_3
 clear hr1_3 hc1_3
 have HR1_7 := Aside0.mk hr1_7
 have HC1_7 := Aside0.mk hc1_7
 clear hr1_7 hc1_7
 have HR1_9 := Aside0.mk hr1_9
 have HC1_9 := Aside0.mk hc1_9
 clear hr1_9 hc1_9
 have HR1_12 := Aside0.mk hr1_12
 have HC1_12 := Aside0.mk hc1_12
 clear hr1_12 hc1_12
 have HB := Aside0.mk (Below.refl w.heap.size w)
 have H : (if a0_0.toList = a1_0.toList then (if a0_1 = a1_1 then (if a0_2.toList = a1_2.toList then ((laws_eqRangeS.f k l0_3 l1_3).bind fun t458 => (if t458 = true then (if a0_4 = a1_4 then (if a0_5 = a1_5 then (if a0_6 = a1_6 then ((laws_eqByteS.f k l0_7 l1_7).bind fun t459 => (if t459 = true then (if a0_8 = a1_8 then ((laws_eqInt64S.f k l0_9 l1_9).bind fun t460 => (if t460 = true then (if a0_10 = a1_10 then (if (a0_11 != a1_11) = true then (none) else ((laws_eqTermS.f k l0_12 l1_12).bind fun t461 => (if t461 = true then (if a0_13 = a1_13 then (some true) else (none)) else (none)))) else (none)) else (none))) else (none)) else (none))) else (none)) else (none)) else (none)) else (none))) else (none)) else (none)) else (none)) = some r := h
 clear h
 by_cases c3 : a0_0.toList = a1_0.toList
 ·
  rw [if_pos c3] at H
  have c3b0 : (a0_0.toList == a1_0.toList) = true := beq_iff_eq.mpr c3
  have c3b1 : (a0_0.toList != a1_0.toList) = false := bne_eq_false_iff_eq.mpr c3
  clear c3
  by_cases c4 : a0_1 = a1_1
  case neg => rw [if_neg c4] at H; exact absurd H (by simp)
  rw [if_pos c4] at H
  have c4b0 : (a0_1 == a1_1) = true := beq_iff_eq.mpr c4
  have c4b1 : (a0_1 != a1_1) = false := bne_eq_false_iff_eq.mpr c4
  clear c4
  by_cases c5 : a0_2.toList = a1_2.toList
  case neg => rw [if_neg c5] at H; exact absurd H (by simp)
  rw [if_pos c5] at H
  have c5b0 : (a0_2.toList == a1_2.toList) = true := beq_iff_eq.mpr c5
  have c5b1 : (a0_2.toList != a1_2.toList) = false := bne_eq_false_iff_eq.mpr c5
  clear c5
  replace H := Option.bind_eq_some_iff.mp H
  obtain ⟨t458, A60, H⟩ := H
  (try dsimp only at H)
  have A6 := Aside0.mk A60
  clear A60
  by_cases c7 : t458 = true
  ·
   subst c7
   (try rw [if_pos rfl] at H)
   by_cases c8 : a0_4 = a1_4
   case neg => rw [if_neg c8] at H; exact absurd H (by simp)
   rw [if_pos c8] at H
   have c8b0 : (a0_4 == a1_4) = true := beq_iff_eq.mpr c8
   have c8b1 : (a0_4 != a1_4) = false := bne_eq_false_iff_eq.mpr c8
   clear c8
   by_cases c9 : a0_5 = a1_5
   case neg => rw [if_neg c9] at H; exact absurd H (by simp)
   rw [if_pos c9] at H
   have c9b0 : (a0_5 == a1_5) = true := beq_iff_eq.mpr c9
   have c9b1 : (a0_5 != a1_5) = false := bne_eq_false_iff_eq.mpr c9
   clear c9
   by_cases c10 : a0_6 = a1_6
   case neg => rw [if_neg c10] at H; exact absurd H (by simp)
   rw [if_pos c10] at H
   have c10b0 : (a0_6 == a1_6) = true := beq_iff_eq.mpr c10
   have c10b1 : (a0_6 != a1_6) = false := bne_eq_false_iff_eq.mpr c10
   clear c10
   replace H := Option.bind_eq_some_iff.mp H
   obtain ⟨t459, A110, H⟩ := H
   (try dsimp only at H)
   have A11 := Aside0.mk A110
   clear A110
   by_cases c12 : t459 = true
   ·
    subst c12
    (try rw [if_pos rfl] at H)
    by_cases c13 : a0_8 = a1_8
    case neg => rw [if_neg c13] at H; exact absurd H (by simp)
    rw [if_pos c13] at H
    have c13b0 : (a0_8 == a1_8) = true := beq_iff_eq.mpr c13
    have c13b1 : (a0_8 != a1_8) = false := bne_eq_false_iff_eq.mpr c13
    clear c13
    replace H := Option.bind_eq_some_iff.mp H
    obtain ⟨t460, A140, H⟩ := H
    (try dsimp only at H)
    have A14 := Aside0.mk A140
    clear A140
    by_cases c15 : t460 = true
    ·
     subst c15
     (try rw [if_pos rfl] at H)
     by_cases c16 : a0_10 = a1_10
     case neg => rw [if_neg c16] at H; exact absurd H (by simp)
     rw [if_pos c16] at H
     have c16b0 : (a0_10 == a1_10) = true := beq_iff_eq.mpr c16
     have c16b1 : (a0_10 != a1_10) = false := bne_eq_false_iff_eq.mpr c16
     clear c16
     by_cases c17 : (a0_11 != a1_11) = true
     · rw [if_pos c17] at H
       exact absurd H (by simp)
     ·
      rw [if_neg c17] at H
      have c17b0 : (a0_11 != a1_11) = false := by simpa using c17
      (try (have c17b1 : decide (a0_11 = a1_11) = true := by simpa using c17))
      (try (have c17b2 : (a0_11 == a1_11) = true := by simpa using c17))
      clear c17
      replace H := Option.bind_eq_some_iff.mp H
      obtain ⟨t461, A180, H⟩ := H
      (try dsimp only at H)
      have A18 := Aside0.mk A180
      clear A180
      by_cases c19 : t461 = true
      ·
       subst c19
       (try rw [if_pos rfl] at H)
       by_cases c20 : a0_13 = a1_13
       case neg => rw [if_neg c20] at H; exact absurd H (by simp)
       rw [if_pos c20] at H
       have c20b0 : (a0_13 == a1_13) = true := beq_iff_eq.mpr c20
       have c20b1 : (a0_13 != a1_13) = false := bne_eq_false_iff_eq.mpr c20
       clear c20
       obtain rfl := Option.some.inj H
       go_enter Try.func10, Try.ntmps10
       go_wp2_with (first | ((with_reducible refine gate_dst (N := 2) rfl ?_); refine box_event ?hg (N := 2) ?hd (cs := #[.string a0_0, .int .i64 a0_1, .string a0_2, .slice A0_3 l0_3.length c0_3, .int .i64 a0_4, .int .i64 a0_5, .int .i64 a0_6, .slice A0_7 l0_7.length c0_7, .int .i64 a0_8, .slice A0_9 l0_9.length c0_9, .int .i64 a0_10, .bool a0_11, .slice A0_12 l0_12.length c0_12, .int .i64 a0_13]) (t := 33) ?hr ?_; (case hd => rfl); (case hg => rfl); (case hr => first | (go_simp; done) | (go_simp; rfl)); intro gb456 hg w21 hbox hb; have n0_ := Aside0.mk (below_step (HB_up HB.out) hb); have n1_ := Aside0.mk (hbox); have n2_ := Aside0.mk ((by rw [hg]; exact (below_size (HB_up HB.out)) : w.heap.size ≤ gb456)); have n3_ := Aside0.mk ((by rw [hg]; exact (below_size (HB_up HB.out)) : w.heap.size ≤ gb456)); clear HB; have HB := n0_; have BK456 := n1_; have GW456 := n2_; have GE456 := n3_; clear n0_ n1_ n2_ n3_; clear hb hbox hg) | ((with_reducible refine gate_dst (N := 3) rfl ?_); refine box_event ?hg (N := 3) ?hd (cs := #[.string a1_0, .int .i64 a1_1, .string a1_2, .slice A1_3 l1_3.length c1_3, .int .i64 a1_4, .int .i64 a1_5, .int .i64 a1_6, .slice A1_7 l1_7.length c1_7, .int .i64 a1_8, .slice A1_9 l1_9.length c1_9, .int .i64 a1_10, .bool a1_11, .slice A1_12 l1_12.length c1_12, .int .i64 a1_13]) (t := 33) ?hr ?_; (case hd => rfl); (case hg => rfl); (case hr => first | (go_simp; done) | (go_simp; rfl)); intro gb457 hg w22 hbox hb; have n0_ := Aside0.mk (blk_below (g := gb456) (blk_up BK456.out) hb); have n1_ := Aside0.mk (below_step (HB_up HB.out) hb); have n2_ := Aside0.mk (hbox); have n3_ := Aside0.mk ((by rw [hg]; exact (below_size (HB_up HB.out)) : w.heap.size ≤ gb457)); have n4_ := Aside0.mk ((by rw [hg]; exact (below_size (HB_up HB.out)) : w.heap.size ≤ gb457)); have n5_ := Aside0.mk ((by rw [hg]; exact Nat.ne_of_lt (blk_lt (g := gb456) (blk_up BK456.out)) : gb456 ≠ gb457)); have n6_ := Aside0.mk ((by rw [hg]; exact Nat.ne_of_gt (blk_lt (g := gb456) (blk_up BK456.out)) : gb457 ≠ gb456)); clear BK456; clear HB; have BK456 := n0_; have HB := n1_; have BK457 := n2_; have GW457 := n3_; have GE457 := n4_; have NB456_457 := n5_; have NB457_456 := n6_; clear n0_ n1_ n2_ n3_ n4_ n5_ n6_; clear hb hbox hg; have hnb23 := NB456_457.out; have hnc23 := NB457_456.out; obtain ⟨_, _, _, _, _, _, _, _, _, _, _, _, _, _⟩ := blk_cells14 BK456.out; obtain ⟨_, _, _, _, _, _, _, _, _, _, _, _, _, _⟩ := blk_frozen14 BK456.out; obtain ⟨hcz25_0, hcz25_1, hcz25_2, hcz25_3, hcz25_4, hcz25_5, hcz25_6, hcz25_7, hcz25_8, hcz25_9, hcz25_10, hcz25_11, hcz25_12, hcz25_13⟩ := blk_cells14 BK457.out; obtain ⟨hfz25_0, hfz25_1, hfz25_2, hfz25_3, hfz25_4, hfz25_5, hfz25_6, hfz25_7, hfz25_8, hfz25_9, hfz25_10, hfz25_11, hfz25_12, hfz25_13⟩ := blk_frozen14 BK457.out) | ((with_reducible refine gate_callee (f := 46) rfl ?_); refine goesY_ (some 24) Try.func46 #[.slice A0_3 l0_3.length c0_3, .slice A1_3 l1_3.length c1_3] rfl ?_; (with_reducible refine (laws_eqRangeS.calls k _ _ l0_3 _ _ l1_3 true _ ?_ ?_ ?_ ?_ A6.out).mono ?_); exact C_up (Kd.C_below HR0_3.out HB.out); exact HC0_3.out; exact C_up (Kd.C_below HR1_3.out HB.out); exact HC1_3.out; rintro e w26 ⟨rfl, hb⟩; refine ⟨_, rfl, ?_⟩; replace BK456 := Aside0.mk (blk_below (g := gb456) (blk_up BK456.out) hb); replace BK457 := Aside0.mk (blk_below (g := gb457) (blk_up BK457.out) hb); replace HB := Aside0.mk (below_step (HB_up HB.out) hb); (try clear hb); obtain ⟨_, _, _, _, _, _, _, _, _, _, _, _, _, _⟩ := blk_cells14 BK456.out; obtain ⟨_, _, _, _, _, _, _, _, _, _, _, _, _, _⟩ := blk_frozen14 BK456.out; obtain ⟨_, _, _, _, _, _, _, _, _, _, _, _, _, _⟩ := blk_cells14 BK457.out; obtain ⟨_, _, _, _, _, _, _, _, _, _, _, _, _, _⟩ := blk_frozen14 BK457.out) | ((with_reducible refine gate_callee (f := 47) rfl ?_); refine goesY_ (some 45) Try.func47 #[.slice A0_7 l0_7.length c0_7, .slice A1_7 l1_7.length c1_7] rfl ?_; (with_reducible refine (laws_eqByteS.calls k _ _ l0_7 _ _ l1_7 true _ ?_ ?_ ?_ ?_ A11.out).mono ?_); exact C_up (Kd.C_below HR0_7.out HB.out); exact HC0_7.out; exact C_up (Kd.C_below HR1_7.out HB.out); exact HC1_7.out; rintro e w' ⟨rfl, ⟨nd, rfl⟩⟩; refine ⟨_, rfl, ?_⟩) | ((with_reducible refine gate_callee (f := 48) rfl ?_); refine goesY_ (some 56) Try.func48 #[.slice A0_9 l0_9.length c0_9, .slice A1_9 l1_9.length c1_9] rfl ?_; (with_reducible refine (laws_eqInt64S.calls k _ _ l0_9 _ _ l1_9 true _ ?_ ?_ ?_ ?_ A14.out).mono ?_); exact Kd.C_below HR0_9.out (HB_up HB.out); exact HC0_9.out; exact Kd.C_below HR1_9.out (HB_up HB.out); exact HC1_9.out; rintro e w' ⟨rfl, ⟨nd, rfl⟩⟩; refine ⟨_, rfl, ?_⟩) | ((with_reducible refine gate_callee (f := 49) rfl ?_); refine goesY_ (some 72) Try.func49 #[.slice A0_12 l0_12.length c0_12, .slice A1_12 l1_12.length c1_12] rfl ?_; (with_reducible refine (laws_eqTermS.calls k _ _ l0_12 _ _ l1_12 true _ ?_ ?_ ?_ ?_ A18.out).mono ?_); exact Kd.C_below HR0_12.out (HB_up HB.out); exact HC0_12.out; exact Kd.C_below HR1_12.out (HB_up HB.out); exact HC1_12.out; rintro e w29 ⟨rfl, hb⟩; refine ⟨_, rfl, ?_⟩; replace BK456 := Aside0.mk (blk_below (g := gb456) (blk_up BK456.out) hb); replace BK457 := Aside0.mk (blk_below (g := gb457) (blk_up BK457.out) hb); replace HB := Aside0.mk (below_step (HB_up HB.out) hb); (try clear hb); obtain ⟨_, _, _, _, _, _, _, _, _, _, _, _, _, _⟩ := blk_cells14 BK456.out; obtain ⟨_, _, _, _, _, _, _, _, _, _, _, _, _, _⟩ := blk_frozen14 BK456.out; obtain ⟨_, _, _, _, _, _, _, _, _, _, _, _, _, _⟩ := blk_cells14 BK457.out; obtain ⟨_, _, _, _, _, _, _, _, _, _, _, _, _, _⟩ := blk_frozen14 BK457.out))
       go_ret
       exact ⟨ve_, hs_⟩
      · replace c19 := Bool.eq_false_iff.mpr c19
        subst c19
        (try rw [if_neg (show ¬ (false = true) by decide)] at H)
        exact absurd H (by simp)
    · replace c15 := Bool.eq_false_iff.mpr c15
      subst c15
      (try rw [if_neg (show ¬ (false = true) by decide)] at H)
      exact absurd H (by simp)
   · replace c12 := Bool.eq_false_iff.mpr c12
     subst c12
     (try rw [if_neg (show ¬ (false = true) by decide)] at H)
     exact absurd H (by simp)
  · replace c7 := Bool.eq_false_iff.mpr c7
    subst c7
    (try rw [if_neg (show ¬ (false = true) by decide)] at H)
    exact absurd H (by simp)
 · rw [if_neg c3] at H
   exact absurd H (by simp)

/-! ### laws_FnExactCmdFault: function 3 -/
def laws_FnExactCmdFault.f (k : Nat) (a0_0 : ByteArray) (a0_1 : Int) (a0_2 : ByteArray) (l0_3 : List (S102)) (a0_4 : Int) (a0_5 : Int) (a0_6 : Int) (l0_7 : List Int) (a0_8 : Int) (l0_9 : List Int) (a0_10 : Int) (a0_11 : Bool) (l0_12 : List (S96)) (a0_13 : Int) : Option (Bool) := (laws_szCmd.f k a0_0 a0_1 a0_2 l0_3 a0_4 a0_5 a0_6 l0_7 a0_8 l0_9 a0_10 a0_11 l0_12 a0_13 1048576).bind fun t463 => (if t463 < 0 then (some true) else ((laws_toCmd.f k a0_0 a0_1 a0_2 l0_3 a0_4 a0_5 a0_6 l0_7 a0_8 l0_9 a0_10 a0_11 l0_12 a0_13).bind fun bt464 => ((spec_CmdFault.f k bt464.1 bt464.2.1 bt464.2.2.1 bt464.2.2.2.1 bt464.2.2.2.2.1 bt464.2.2.2.2.2.1 bt464.2.2.2.2.2.2.1 bt464.2.2.2.2.2.2.2.1 bt464.2.2.2.2.2.2.2.2.1 bt464.2.2.2.2.2.2.2.2.2.1 bt464.2.2.2.2.2.2.2.2.2.2.1 bt464.2.2.2.2.2.2.2.2.2.2.2.1 bt464.2.2.2.2.2.2.2.2.2.2.2.2.1 bt464.2.2.2.2.2.2.2.2.2.2.2.2.2).bind fun t486 => ((laws_toCmd.f k a0_0 a0_1 a0_2 l0_3 a0_4 a0_5 a0_6 l0_7 a0_8 l0_9 a0_10 a0_11 l0_12 a0_13).bind fun bt487 => ((impl_CmdFault.f k bt487.1 bt487.2.1 bt487.2.2.1 bt487.2.2.2.1 bt487.2.2.2.2.1 bt487.2.2.2.2.2.1 bt487.2.2.2.2.2.2.1 bt487.2.2.2.2.2.2.2.1 bt487.2.2.2.2.2.2.2.2.1 bt487.2.2.2.2.2.2.2.2.2.1 bt487.2.2.2.2.2.2.2.2.2.2.1 bt487.2.2.2.2.2.2.2.2.2.2.2.1 bt487.2.2.2.2.2.2.2.2.2.2.2.2.1 bt487.2.2.2.2.2.2.2.2.2.2.2.2.2).bind fun t510 => (if t510 = t486 then ((laws_toCmd.f k a0_0 a0_1 a0_2 l0_3 a0_4 a0_5 a0_6 l0_7 a0_8 l0_9 a0_10 a0_11 l0_12 a0_13).bind fun bt511 => ((laws_eqCmd.f k bt487.1 bt487.2.1 bt487.2.2.1 bt487.2.2.2.1 bt487.2.2.2.2.1 bt487.2.2.2.2.2.1 bt487.2.2.2.2.2.2.1 bt487.2.2.2.2.2.2.2.1 bt487.2.2.2.2.2.2.2.2.1 bt487.2.2.2.2.2.2.2.2.2.1 bt487.2.2.2.2.2.2.2.2.2.2.1 bt487.2.2.2.2.2.2.2.2.2.2.2.1 bt487.2.2.2.2.2.2.2.2.2.2.2.2.1 bt487.2.2.2.2.2.2.2.2.2.2.2.2.2 bt511.1 bt511.2.1 bt511.2.2.1 bt511.2.2.2.1 bt511.2.2.2.2.1 bt511.2.2.2.2.2.1 bt511.2.2.2.2.2.2.1 bt511.2.2.2.2.2.2.2.1 bt511.2.2.2.2.2.2.2.2.1 bt511.2.2.2.2.2.2.2.2.2.1 bt511.2.2.2.2.2.2.2.2.2.2.1 bt511.2.2.2.2.2.2.2.2.2.2.2.1 bt511.2.2.2.2.2.2.2.2.2.2.2.2.1 bt511.2.2.2.2.2.2.2.2.2.2.2.2.2).bind fun t533 => (if t533 = true then (some true) else (none)))) else (none)))))))
set_option maxHeartbeats 8000000 in
set_option maxRecDepth 100000 in
theorem laws_FnExactCmdFault.calls (k : Nat) (a0_0 : ByteArray) (a0_1 : Int) (a0_2 : ByteArray) (A0_3 : Option Addr) (c0_3 : Nat) (l0_3 : List (S102)) (a0_4 : Int) (a0_5 : Int) (a0_6 : Int) (A0_7 : Option Addr) (c0_7 : Nat) (l0_7 : List Int) (a0_8 : Int) (A0_9 : Option Addr) (c0_9 : Nat) (l0_9 : List Int) (a0_10 : Int) (a0_11 : Bool) (A0_12 : Option Addr) (c0_12 : Nat) (l0_12 : List (S96)) (a0_13 : Int) (r : Bool) (w : World) (hr0_3 : Kd.C k102 w A0_3 l0_3.length l0_3) (hc0_3 : l0_3.length ≤ c0_3) (hr0_7 : Kd.C (Kd.int .u8) w A0_7 l0_7.length l0_7) (hc0_7 : l0_7.length ≤ c0_7) (hr0_9 : Kd.C (Kd.int .i64) w A0_9 l0_9.length l0_9) (hc0_9 : l0_9.length ≤ c0_9) (hr0_12 : Kd.C k96 w A0_12 l0_12.length l0_12) (hc0_12 : l0_12.length ≤ c0_12) (h : laws_FnExactCmdFault.f k a0_0 a0_1 a0_2 l0_3 a0_4 a0_5 a0_6 l0_7 a0_8 l0_9 a0_10 a0_11 l0_12 a0_13 = some r) :
 Calls Try.prog 3 #[.agg #[.string a0_0, .int .i64 a0_1, .string a0_2, .slice A0_3 l0_3.length c0_3, .int .i64 a0_4, .int .i64 a0_5, .int .i64 a0_6, .slice A0_7 l0_7.length c0_7, .int .i64 a0_8, .slice A0_9 l0_9.length c0_9, .int .i64 a0_10, .bool a0_11, .slice A0_12 l0_12.length c0_12, .int .i64 a0_13]] w fun e w' => e = .returned (.bool r) ∧ Below w.heap.size w w' := by
 have hu27 := Try.underlying27
 have hu33 := Try.underlying33
 have HR0_3 := Aside0.mk hr0_3
 have HC0_3 := Aside0.mk hc0_3
 clear hr0_3 hc0_3
 have HR0_7 := Aside0.mk hr0_7
 have HC0_7 := Aside0.mk hc0_7
 clear hr0_7 hc0_7
 have HR0_9 := Aside0.mk hr0_9
 have HC0_9 := Aside0.mk hc0_9
 clear hr0_9 hc0_9
 have HR0_12 := Aside0.mk hr0_12
 have HC0_12 := Aside0.mk hc0_12
 clear hr0_12 hc0_12
 have HB := Aside0.mk (Below.refl w.heap.size w)
 have H : ((laws_szCmd.f k a0_0 a0_1 a0_2 l0_3 a0_4 a0_5 a0_6 l0_7 a0_8 l0_9 a0_10 a0_11 l0_12 a0_13 1048576).bind fun t463 => (if t463 < 0 then (some true) else ((laws_toCmd.f k a0_0 a0_1 a0_2 l0_3 a0_4 a0_5 a0_6 l0_7 a0_8 l0_9 a0_10 a0_11 l0_12 a0_13).bind fun bt464 => ((spec_CmdFault.f k bt464.1 bt464.2.1 bt464.2.2.1 bt464.2.2.2.1 bt464.2.2.2.2.1 bt464.2.2.2.2.2.1 bt464.2.2.2.2.2.2.1 bt464.2.2.2.2.2.2.2.1 bt464.2.2.2.2.2.2.2.2.1 bt464.2.2.2.2.2.2.2.2.2.1 bt464.2.2.2.2.2.2.2.2.2.2.1 bt464.2.2.2.2.2.2.2.2.2.2.2.1 bt464.2.2.2.2.2.2.2.2.2.2.2.2.1 bt464.2.2.2.2.2.2.2.2.2.2.2.2.2).bind fun t486 => ((laws_toCmd.f k a0_0 a0_1 a0_2 l0_3 a0_4 a0_5 a0_6 l0_7 a0_8 l0_9 a0_10 a0_11 l0_12 a0_13).bind fun bt487 => ((impl_CmdFault.f k bt487.1 bt487.2.1 bt487.2.2.1 bt487.2.2.2.1 bt487.2.2.2.2.1 bt487.2.2.2.2.2.1 bt487.2.2.2.2.2.2.1 bt487.2.2.2.2.2.2.2.1 bt487.2.2.2.2.2.2.2.2.1 bt487.2.2.2.2.2.2.2.2.2.1 bt487.2.2.2.2.2.2.2.2.2.2.1 bt487.2.2.2.2.2.2.2.2.2.2.2.1 bt487.2.2.2.2.2.2.2.2.2.2.2.2.1 bt487.2.2.2.2.2.2.2.2.2.2.2.2.2).bind fun t510 => (if t510 = t486 then ((laws_toCmd.f k a0_0 a0_1 a0_2 l0_3 a0_4 a0_5 a0_6 l0_7 a0_8 l0_9 a0_10 a0_11 l0_12 a0_13).bind fun bt511 => ((laws_eqCmd.f k bt487.1 bt487.2.1 bt487.2.2.1 bt487.2.2.2.1 bt487.2.2.2.2.1 bt487.2.2.2.2.2.1 bt487.2.2.2.2.2.2.1 bt487.2.2.2.2.2.2.2.1 bt487.2.2.2.2.2.2.2.2.1 bt487.2.2.2.2.2.2.2.2.2.1 bt487.2.2.2.2.2.2.2.2.2.2.1 bt487.2.2.2.2.2.2.2.2.2.2.2.1 bt487.2.2.2.2.2.2.2.2.2.2.2.2.1 bt487.2.2.2.2.2.2.2.2.2.2.2.2.2 bt511.1 bt511.2.1 bt511.2.2.1 bt511.2.2.2.1 bt511.2.2.2.2.1 bt511.2.2.2.2.2.1 bt511.2.2.2.2.2.2.1 bt511.2.2.2.2.2.2.2.1 bt511.2.2.2.2.2.2.2.2.1 bt511.2.2.2.2.2.2.2.2.2.1 bt511.2.2.2.2.2.2.2.2.2.2.1 bt511.2.2.2.2.2.2.2.2.2.2.2.1 bt511.2.2.2.2.2.2.2.2.2.2.2.2.1 bt511.2.2.2.2.2.2.2.2.2.2.2.2.2).bind fun t533 => (if t533 = true then (some true) else (none)))) else (none)))))))) = some r := h
 clear h
 replace H := Option.bind_eq_some_iff.mp H
 obtain ⟨t463, A20, H⟩ := H
 (try dsimp only at H)
 have A2 := Aside0.mk A20
 clear A20
 by_cases c3 : t463 < 0
 ·
  rw [if_pos c3] at H
  have c3b0 : decide (t463 < 0) = true := decide_eq_true c3
  clear c3
  obtain rfl := Option.some.inj H
  go_enter Try.func3, Try.ntmps3
  go_wp2_with (first | ((with_reducible refine gate_dst (N := 1) rfl ?_); refine box_event ?hg (N := 1) ?hd (cs := #[.string a0_0, .int .i64 a0_1, .string a0_2, .slice A0_3 l0_3.length c0_3, .int .i64 a0_4, .int .i64 a0_5, .int .i64 a0_6, .slice A0_7 l0_7.length c0_7, .int .i64 a0_8, .slice A0_9 l0_9.length c0_9, .int .i64 a0_10, .bool a0_11, .slice A0_12 l0_12.length c0_12, .int .i64 a0_13]) (t := 27) ?hr ?_; (case hd => rfl); (case hg => rfl); (case hr => first | (go_simp; done) | (go_simp; rfl)); intro gb462 hg w4 hbox hb; have n0_ := Aside0.mk (below_step hs_ hb); have n1_ := Aside0.mk (hbox); have n2_ := Aside0.mk ((by rw [hg]; exact (below_size hs_) : w.heap.size ≤ gb462)); have n3_ := Aside0.mk ((by rw [hg]; exact (below_size hs_) : w.heap.size ≤ gb462)); clear HB; have HB := n0_; have BK462 := n1_; have GW462 := n2_; have GE462 := n3_; clear n0_ n1_ n2_ n3_; clear hb hbox hg; obtain ⟨_, _, _, _, _, _, _, _, _, _, _, _, _, _⟩ := blk_cells14 BK462.out; obtain ⟨_, _, _, _, _, _, _, _, _, _, _, _, _, _⟩ := blk_frozen14 BK462.out) | ((with_reducible refine gate_callee (f := 6) rfl ?_); refine goesY_ (some 9) Try.func6 #[.agg #[.string a0_0, .int .i64 a0_1, .string a0_2, .slice A0_3 l0_3.length c0_3, .int .i64 a0_4, .int .i64 a0_5, .int .i64 a0_6, .slice A0_7 l0_7.length c0_7, .int .i64 a0_8, .slice A0_9 l0_9.length c0_9, .int .i64 a0_10, .bool a0_11, .slice A0_12 l0_12.length c0_12, .int .i64 a0_13], .int .i64 1048576] rfl ?_; (with_reducible refine (laws_szCmd.calls k a0_0 a0_1 a0_2 _ _ l0_3 a0_4 a0_5 a0_6 _ _ l0_7 a0_8 _ _ l0_9 a0_10 a0_11 _ _ l0_12 a0_13 1048576 t463 _ ?_ ?_ ?_ ?_ ?_ ?_ ?_ ?_ A2.out).mono ?_); exact C_up (Kd.C_below HR0_3.out HB.out); exact HC0_3.out; exact C_up (Kd.C_below HR0_7.out HB.out); exact HC0_7.out; exact C_up (Kd.C_below HR0_9.out HB.out); exact HC0_9.out; exact C_up (Kd.C_below HR0_12.out HB.out); exact HC0_12.out; rintro e w6 ⟨rfl, hb⟩; refine ⟨_, rfl, ?_⟩; replace BK462 := Aside0.mk (blk_below (g := gb462) (blk_up BK462.out) hb); replace HB := Aside0.mk (below_step hs_ hb); (try clear hb)))
  go_ret
  exact ⟨ve_, hs_⟩
 ·
  rw [if_neg c3] at H
  have c3b0 : decide (t463 < 0) = false := decide_eq_false c3
  clear c3
  replace H := Option.bind_eq_some_iff.mp H
  obtain ⟨⟨t464, t465, t466, t467, t470, t471, t472, t473, t476, t477, t480, t481, t482, t485⟩, A70, H⟩ := H
  (try dsimp only at H)
  have A7 := Aside0.mk A70
  clear A70
  replace H := Option.bind_eq_some_iff.mp H
  obtain ⟨t486, A80, H⟩ := H
  (try dsimp only at H)
  have A8 := Aside0.mk A80
  clear A80
  replace H := Option.bind_eq_some_iff.mp H
  obtain ⟨⟨t487, t488, t489, t490, t493, t494, t495, t496, t499, t500, t503, t504, t505, t508⟩, A90, H⟩ := H
  (try dsimp only at H)
  have A9 := Aside0.mk A90
  clear A90
  replace H := Option.bind_eq_some_iff.mp H
  obtain ⟨t510, A100, H⟩ := H
  (try dsimp only at H)
  have A10 := Aside0.mk A100
  clear A100
  by_cases c11 : t510 = t486
  ·
   rw [if_pos c11] at H
   have c11b0 : (t510 == t486) = true := beq_iff_eq.mpr c11
   have c11b1 : (t510 != t486) = false := bne_eq_false_iff_eq.mpr c11
   clear c11
   replace H := Option.bind_eq_some_iff.mp H
   obtain ⟨⟨t511, t512, t513, t514, t517, t518, t519, t520, t523, t524, t527, t528, t529, t532⟩, A120, H⟩ := H
   (try dsimp only at H)
   have A12 := Aside0.mk A120
   clear A120
   replace H := Option.bind_eq_some_iff.mp H
   obtain ⟨t533, A130, H⟩ := H
   replace H : (if t533 = true then (some true) else (none)) = some r := H
   have A13 := Aside0.mk A130
   clear A130
   by_cases c14 : t533 = true
   ·
    subst c14
    (try rw [if_pos rfl] at H)
    obtain rfl := Option.some.inj H
    go_enter Try.func3, Try.ntmps3
    try go_wp2_with (first | ((with_reducible refine gate_dst (N := 1) rfl ?_); refine box_event ?hg (N := 1) ?hd (cs := #[.string a0_0, .int .i64 a0_1, .string a0_2, .slice A0_3 l0_3.length c0_3, .int .i64 a0_4, .int .i64 a0_5, .int .i64 a0_6, .slice A0_7 l0_7.length c0_7, .int .i64 a0_8, .slice A0_9 l0_9.length c0_9, .int .i64 a0_10, .bool a0_11, .slice A0_12 l0_12.length c0_12, .int .i64 a0_13]) (t := 27) ?hr ?_; (case hd => rfl); (case hg => rfl); (case hr => first | (go_simp; done) | (go_simp; rfl)); intro gb462 hg w15 hbox hb; have n0_ := Aside0.mk (below_step hs_ hb); have n1_ := Aside0.mk (hbox); have n2_ := Aside0.mk ((by rw [hg]; exact (below_size hs_) : w.heap.size ≤ gb462)); have n3_ := Aside0.mk ((by rw [hg]; exact (below_size hs_) : w.heap.size ≤ gb462)); clear HB; have HB := n0_; have BK462 := n1_; have GW462 := n2_; have GE462 := n3_; clear n0_ n1_ n2_ n3_; clear hb hbox hg; obtain ⟨_, _, _, _, _, _, _, _, _, _, _, _, _, _⟩ := blk_cells14 BK462.out; obtain ⟨_, _, _, _, _, _, _, _, _, _, _, _, _, _⟩ := blk_frozen14 BK462.out) | ((with_reducible refine gate_callee (f := 6) rfl ?_); refine goesY_ (some 9) Try.func6 #[.agg #[.string a0_0, .int .i64 a0_1, .string a0_2, .slice A0_3 l0_3.length c0_3, .int .i64 a0_4, .int .i64 a0_5, .int .i64 a0_6, .slice A0_7 l0_7.length c0_7, .int .i64 a0_8, .slice A0_9 l0_9.length c0_9, .int .i64 a0_10, .bool a0_11, .slice A0_12 l0_12.length c0_12, .int .i64 a0_13], .int .i64 1048576] rfl ?_; (with_reducible refine (laws_szCmd.calls k a0_0 a0_1 a0_2 _ _ l0_3 a0_4 a0_5 a0_6 _ _ l0_7 a0_8 _ _ l0_9 a0_10 a0_11 _ _ l0_12 a0_13 1048576 t463 _ ?_ ?_ ?_ ?_ ?_ ?_ ?_ ?_ A2.out).mono ?_); exact C_up (Kd.C_below HR0_3.out HB.out); exact HC0_3.out; exact C_up (Kd.C_below HR0_7.out HB.out); exact HC0_7.out; exact C_up (Kd.C_below HR0_9.out HB.out); exact HC0_9.out; exact C_up (Kd.C_below HR0_12.out HB.out); exact HC0_12.out; rintro e w17 ⟨rfl, hb⟩; refine ⟨_, rfl, ?_⟩; replace BK462 := Aside0.mk (blk_below (g := gb462) (blk_up BK462.out) hb); replace HB := Aside0.mk (below_step hs_ hb); (try clear hb); obtain ⟨_, _, _, _, _, _, _, _, _, _, _, _, _, _⟩ := blk_cells14 BK462.out; obtain ⟨_, _, _, _, _, _, _, _, _, _, _, _, _, _⟩ := blk_frozen14 BK462.out) | ((with_reducible refine gate_callee (f := 8) rfl ?_); refine goesY_ (some 13) Try.func8 #[.agg #[.string a0_0, .int .i64 a0_1, .string a0_2, .slice A0_3 l0_3.length c0_3, .int .i64 a0_4, .int .i64 a0_5, .int .i64 a0_6, .slice A0_7 l0_7.length c0_7, .int .i64 a0_8, .slice A0_9 l0_9.length c0_9, .int .i64 a0_10, .bool a0_11, .slice A0_12 l0_12.length c0_12, .int .i64 a0_13]] rfl ?_; (with_reducible refine (laws_toCmd.calls k a0_0 a0_1 a0_2 _ _ l0_3 a0_4 a0_5 a0_6 _ _ l0_7 a0_8 _ _ l0_9 a0_10 a0_11 _ _ l0_12 a0_13 t464 t465 t466 t467 t470 t471 t472 t473 t476 t477 t480 t481 t482 t485 _ ?_ ?_ ?_ ?_ ?_ ?_ ?_ ?_ A7.out).mono ?_); exact C_up (Kd.C_below HR0_3.out HB.out); exact HC0_3.out; exact C_up (Kd.C_below HR0_7.out HB.out); exact HC0_7.out; exact C_up (Kd.C_below HR0_9.out HB.out); exact HC0_9.out; exact C_up (Kd.C_below HR0_12.out HB.out); exact HC0_12.out; rintro e w19 ⟨v468, v474, v478, v483, rfl, ho0, ho1, ho2, ho3, hb⟩; refine ⟨_, rfl, ?_⟩; have HO469 := Aside0.mk (Kd.R_lower ho0 (below_size hs_)); have HO475 := Aside0.mk (Kd.R_lower ho1 (below_size hs_)); have HO479 := Aside0.mk (Kd.R_lower ho2 (below_size hs_)); have HO484 := Aside0.mk (Kd.S_lower ho3 (below_size hs_)); replace BK462 := Aside0.mk (blk_below (g := gb462) (blk_up BK462.out) hb); replace HB := Aside0.mk (below_step hs_ hb); (try clear hb); (try clear ho0); (try clear ho1); (try clear ho2); (try clear ho3); obtain ⟨Ao20, co20, eo20⟩ := Kd.R_slice HO469.out; subst eo20; obtain ⟨Ao21, co21, eo21⟩ := Kd.R_slice HO475.out; subst eo21; obtain ⟨Ao22, co22, eo22⟩ := Kd.R_slice HO479.out; subst eo22; obtain ⟨Ao23, co23, eo23⟩ := Kd.S_slice HO484.out; subst eo23) | ((with_reducible refine gate_callee (f := 7) rfl ?_); refine goesY_ (some 14) Try.func7 #[.agg #[.string t464, .int .i64 t465, .string t466, .slice Ao20 t467.length co20, .int .i64 t470, .int .i64 t471, .int .i64 t472, .slice Ao21 t473.length co21, .int .i64 t476, .slice Ao22 t477.length co22, .int .i64 t480, .bool t481, .slice Ao23 t482.length co23, .int .i64 t485]] rfl ?_; (with_reducible refine (spec_CmdFault.calls k t464 t465 t466 _ _ t467 t470 t471 t472 _ _ t473 t476 _ _ t477 t480 t481 _ _ t482 t485 t486 _ ?_ ?_ ?_ ?_ ?_ ?_ ?_ ?_ A8.out).mono ?_); exact C_up (Kd.R_reads' HO469.out).2.2; exact (Kd.R_reads' HO469.out).2.1; exact C_up (Kd.R_reads' HO475.out).2.2; exact (Kd.R_reads' HO475.out).2.1; exact C_up (Kd.R_reads' HO479.out).2.2; exact (Kd.R_reads' HO479.out).2.1; exact C_up (Kd.S_reads' HO484.out).2.2; exact (Kd.S_reads' HO484.out).2.1; rintro e w24 ⟨rfl, hb⟩; refine ⟨_, rfl, ?_⟩; replace HO469 := Aside0.mk (Kd.R_below (R_up HO469.out) hb); replace HO475 := Aside0.mk (Kd.R_below (R_up HO475.out) hb); replace HO479 := Aside0.mk (Kd.R_below (R_up HO479.out) hb); replace HO484 := Aside0.mk (Kd.S_below (S_up HO484.out) hb); replace BK462 := Aside0.mk (blk_below (g := gb462) (blk_up BK462.out) hb); replace HB := Aside0.mk (below_step hs_ hb); (try clear hb); obtain ⟨hcz25_0, hcz25_1, hcz25_2, hcz25_3, hcz25_4, hcz25_5, hcz25_6, hcz25_7, hcz25_8, hcz25_9, hcz25_10, hcz25_11, hcz25_12, hcz25_13⟩ := blk_cells14 BK462.out; obtain ⟨hfz25_0, hfz25_1, hfz25_2, hfz25_3, hfz25_4, hfz25_5, hfz25_6, hfz25_7, hfz25_8, hfz25_9, hfz25_10, hfz25_11, hfz25_12, hfz25_13⟩ := blk_frozen14 BK462.out) | ((with_reducible refine gate_callee (f := 8) rfl ?_); refine goesY_ (some 16) Try.func8 #[.agg #[.string a0_0, .int .i64 a0_1, .string a0_2, .slice A0_3 l0_3.length c0_3, .int .i64 a0_4, .int .i64 a0_5, .int .i64 a0_6, .slice A0_7 l0_7.length c0_7, .int .i64 a0_8, .slice A0_9 l0_9.length c0_9, .int .i64 a0_10, .bool a0_11, .slice A0_12 l0_12.length c0_12, .int .i64 a0_13]] rfl ?_; (with_reducible refine (laws_toCmd.calls k a0_0 a0_1 a0_2 _ _ l0_3 a0_4 a0_5 a0_6 _ _ l0_7 a0_8 _ _ l0_9 a0_10 a0_11 _ _ l0_12 a0_13 t487 t488 t489 t490 t493 t494 t495 t496 t499 t500 t503 t504 t505 t508 _ ?_ ?_ ?_ ?_ ?_ ?_ ?_ ?_ A9.out).mono ?_); exact C_up (Kd.C_below HR0_3.out HB.out); exact HC0_3.out; exact C_up (Kd.C_below HR0_7.out HB.out); exact HC0_7.out; exact C_up (Kd.C_below HR0_9.out HB.out); exact HC0_9.out; exact C_up (Kd.C_below HR0_12.out HB.out); exact HC0_12.out; rintro e w26 ⟨v491, v497, v501, v506, rfl, ho0, ho1, ho2, ho3, hb⟩; refine ⟨_, rfl, ?_⟩; have n0_ := Aside0.mk (Kd.R_elder' (R_up HO469.out) (Kd.R_base ho0) hb); have n1_ := Aside0.mk (Kd.R_elder' (R_up HO475.out) (Kd.R_base ho1) hb); have n2_ := Aside0.mk (Kd.R_elder' (R_up HO479.out) (Kd.R_base ho2) hb); have n3_ := Aside0.mk (Kd.S_mono (Kd.S_told (Kd.S_told (Kd.S_told (Kd.S_old (S_up HO484.out) hb) (Kd.R_base ho0)) (Kd.R_base ho2)) (Kd.S_base ho3)) (fun _ h_ => h_.1)); have n4_ := Aside0.mk (Kd.R_lower (Kd.R_new' ho0 (Kd.R_lt (R_up HO469.out))) (below_size hs_)); have n5_ := Aside0.mk (Kd.R_lower (Kd.R_new' ho1 (Kd.R_lt (R_up HO475.out))) (below_size hs_)); have n6_ := Aside0.mk (Kd.R_lower (Kd.R_new' ho2 (Kd.R_lt (R_up HO479.out))) (below_size hs_)); have n7_ := Aside0.mk (Kd.S_lower (Kd.S_new' (Kd.S_new' (Kd.S_new' ho3 (Kd.R_lt (R_up HO469.out))) (Kd.R_lt (R_up HO479.out))) (Kd.S_lt (S_up HO484.out))) (below_size hs_)); have n8_ := Aside0.mk (blk_below (g := gb462) (blk_up BK462.out) hb); have n9_ := Aside0.mk (below_step hs_ hb); clear HO469; clear HO475; clear HO479; clear HO484; clear BK462; clear HB; have HO469 := n0_; have HO475 := n1_; have HO479 := n2_; have HO484 := n3_; have HO492 := n4_; have HO498 := n5_; have HO502 := n6_; have HO507 := n7_; have BK462 := n8_; have HB := n9_; clear n0_ n1_ n2_ n3_ n4_ n5_ n6_ n7_ n8_ n9_; (try clear hb); (try clear hb2); (try clear hk); (try clear hi); (try clear ho0); (try clear ho1); (try clear ho2); (try clear ho3)) | ((with_reducible refine gate_dst (N := 5) rfl ?_); refine box_event ?hg (N := 5) ?hd (cs := #[.string (⟨#[]⟩ : ByteArray), .int .i64 0, .string (⟨#[]⟩ : ByteArray), .slice none 0 0, .int .i64 0, .int .i64 0, .int .i64 0, .slice none 0 0, .int .i64 0, .slice none 0 0, .int .i64 0, .bool false, .slice none 0 0, .int .i64 0]) (t := 33) ?hr ?_; (case hd => rfl); (case hg => rfl); (case hr => first | (go_simp; done) | (go_simp; rfl)); intro gb509 hg w27 hbox hb; have n0_ := Aside0.mk (Kd.R_below (R_up HO469.out) hb); have n1_ := Aside0.mk (Kd.R_below (R_up HO475.out) hb); have n2_ := Aside0.mk (Kd.R_below (R_up HO479.out) hb); have n3_ := Aside0.mk (Kd.S_below (S_up HO484.out) hb); have n4_ := Aside0.mk (Kd.R_below (R_up HO492.out) hb); have n5_ := Aside0.mk (Kd.R_below (R_up HO498.out) hb); have n6_ := Aside0.mk (Kd.R_below (R_up HO502.out) hb); have n7_ := Aside0.mk (Kd.S_below (S_up HO507.out) hb); have n8_ := Aside0.mk (blk_below (g := gb462) (blk_up BK462.out) hb); have n9_ := Aside0.mk (below_step hs_ hb); have n10_ := Aside0.mk (hbox); have n11_ := Aside0.mk ((by rw [hg]; exact (below_size hs_) : w.heap.size ≤ gb509)); have n12_ := Aside0.mk ((by rw [hg]; exact (below_size hs_) : w.heap.size ≤ gb509)); have n13_ := Aside0.mk ((by rw [hg]; exact Nat.ne_of_lt (blk_lt (g := gb462) (blk_up BK462.out)) : gb462 ≠ gb509)); have n14_ := Aside0.mk ((by rw [hg]; exact Nat.ne_of_gt (blk_lt (g := gb462) (blk_up BK462.out)) : gb509 ≠ gb462)); clear HO469; clear HO475; clear HO479; clear HO484; clear HO492; clear HO498; clear HO502; clear HO507; clear BK462; clear HB; have HO469 := n0_; have HO475 := n1_; have HO479 := n2_; have HO484 := n3_; have HO492 := n4_; have HO498 := n5_; have HO502 := n6_; have HO507 := n7_; have BK462 := n8_; have HB := n9_; have BK509 := n10_; have GW509 := n11_; have GE509 := n12_; have NB462_509 := n13_; have NB509_462 := n14_; clear n0_ n1_ n2_ n3_ n4_ n5_ n6_ n7_ n8_ n9_ n10_ n11_ n12_ n13_ n14_; clear hb hbox hg; have hnb28 := NB509_462.out; have hnc28 := NB462_509.out; obtain ⟨_, _, _, _, _, _, _, _, _, _, _, _, _, _⟩ := blk_cells14 BK509.out; obtain ⟨_, _, _, _, _, _, _, _, _, _, _, _, _, _⟩ := blk_frozen14 BK509.out; obtain ⟨Ao30, co30, eo30⟩ := Kd.R_slice HO492.out; subst eo30; obtain ⟨Ao31, co31, eo31⟩ := Kd.R_slice HO498.out; subst eo31; obtain ⟨Ao32, co32, eo32⟩ := Kd.R_slice HO502.out; subst eo32; obtain ⟨Ao33, co33, eo33⟩ := Kd.S_slice HO507.out; subst eo33) | ((with_reducible refine gate_callee (f := 9) rfl ?_); refine goesY_ (some 18) Try.func9 #[.agg #[.string t487, .int .i64 t488, .string t489, .slice Ao30 t490.length co30, .int .i64 t493, .int .i64 t494, .int .i64 t495, .slice Ao31 t496.length co31, .int .i64 t499, .slice Ao32 t500.length co32, .int .i64 t503, .bool t504, .slice Ao33 t505.length co33, .int .i64 t508]] rfl ?_; (with_reducible refine (impl_CmdFault.calls k t487 t488 t489 _ _ t490 t493 t494 t495 _ _ t496 t499 _ _ t500 t503 t504 _ _ t505 t508 t510 _ ?side1 ?side2 ?side3 ?side4 ?side5 ?side6 ?side7 ?side8 A10.out).mono ?_); (case side1 => refine (Kd.R_reads' (e := 100) (base := w.heap.size) (ok := fun k_ => (True ∧ some k_ ≠ (.slice Ao20 t467.length co20 : Value).ownBlock)) (n := t490.length) (c := co30) ?_).2.2; exact (by (with_reducible repeat (first | apply Kd.R_alloc | apply Kd.R_drewN | apply Kd.R_drew)); exact (Kd.R_mono (Kd.R_far (p := ⟨gb509, 13, none⟩) (Kd.R_far (p := ⟨gb509, 12, none⟩) (Kd.R_far (p := ⟨gb509, 11, none⟩) (Kd.R_far (p := ⟨gb509, 10, none⟩) (Kd.R_far (p := ⟨gb509, 9, none⟩) (Kd.R_far (p := ⟨gb509, 8, none⟩) (Kd.R_far (p := ⟨gb509, 7, none⟩) (Kd.R_far (p := ⟨gb509, 6, none⟩) (Kd.R_far (p := ⟨gb509, 5, none⟩) (Kd.R_far (p := ⟨gb509, 4, none⟩) (Kd.R_far (p := ⟨gb509, 3, none⟩) (Kd.R_far (p := ⟨gb509, 2, none⟩) (Kd.R_far (p := ⟨gb509, 1, none⟩) (Kd.R_far (p := ⟨gb509, 0, none⟩) (Kd.R_types HO492.out BK509.out (by decide)) (fun _ hk => hk.2) (.string t487)) (fun _ hk => hk.2) (.int .i64 t488)) (fun _ hk => hk.2) (.string t489)) (fun _ hk => hk.2) (.slice Ao30 t490.length co30)) (fun _ hk => hk.2) (.int .i64 t493)) (fun _ hk => hk.2) (.int .i64 t494)) (fun _ hk => hk.2) (.int .i64 t495)) (fun _ hk => hk.2) (.slice Ao31 t496.length co31)) (fun _ hk => hk.2) (.int .i64 t499)) (fun _ hk => hk.2) (.slice Ao32 t500.length co32)) (fun _ hk => hk.2) (.int .i64 t503)) (fun _ hk => hk.2) (.bool t504)) (fun _ hk => hk.2) (.slice Ao33 t505.length co33)) (fun _ hk => hk.2) (.int .i64 t508)) (fun _ h_ => h_.1)))); (case side2 => exact (Kd.R_reads' HO492.out).2.1); (case side3 => refine (Kd.R_reads' (e := 5) (base := w.heap.size) (ok := fun k_ => (True ∧ some k_ ≠ (.slice Ao21 t473.length co21 : Value).ownBlock)) (n := t496.length) (c := co31) ?_).2.2; exact (by (with_reducible repeat (first | apply Kd.R_alloc | apply Kd.R_drewN | apply Kd.R_drew)); exact (Kd.R_mono (Kd.R_far (p := ⟨gb509, 13, none⟩) (Kd.R_far (p := ⟨gb509, 12, none⟩) (Kd.R_far (p := ⟨gb509, 11, none⟩) (Kd.R_far (p := ⟨gb509, 10, none⟩) (Kd.R_far (p := ⟨gb509, 9, none⟩) (Kd.R_far (p := ⟨gb509, 8, none⟩) (Kd.R_far (p := ⟨gb509, 7, none⟩) (Kd.R_far (p := ⟨gb509, 6, none⟩) (Kd.R_far (p := ⟨gb509, 5, none⟩) (Kd.R_far (p := ⟨gb509, 4, none⟩) (Kd.R_far (p := ⟨gb509, 3, none⟩) (Kd.R_far (p := ⟨gb509, 2, none⟩) (Kd.R_far (p := ⟨gb509, 1, none⟩) (Kd.R_far (p := ⟨gb509, 0, none⟩) (Kd.R_types HO498.out BK509.out (by decide)) (fun _ hk => hk.2) (.string t487)) (fun _ hk => hk.2) (.int .i64 t488)) (fun _ hk => hk.2) (.string t489)) (fun _ hk => hk.2) (.slice Ao30 t490.length co30)) (fun _ hk => hk.2) (.int .i64 t493)) (fun _ hk => hk.2) (.int .i64 t494)) (fun _ hk => hk.2) (.int .i64 t495)) (fun _ hk => hk.2) (.slice Ao31 t496.length co31)) (fun _ hk => hk.2) (.int .i64 t499)) (fun _ hk => hk.2) (.slice Ao32 t500.length co32)) (fun _ hk => hk.2) (.int .i64 t503)) (fun _ hk => hk.2) (.bool t504)) (fun _ hk => hk.2) (.slice Ao33 t505.length co33)) (fun _ hk => hk.2) (.int .i64 t508)) (fun _ h_ => h_.1)))); (case side4 => exact (Kd.R_reads' HO498.out).2.1); (case side5 => refine (Kd.R_reads' (e := 2) (base := w.heap.size) (ok := fun k_ => (True ∧ some k_ ≠ (.slice Ao22 t477.length co22 : Value).ownBlock)) (n := t500.length) (c := co32) ?_).2.2; exact (by (with_reducible repeat (first | apply Kd.R_alloc | apply Kd.R_drewN | apply Kd.R_drew)); exact (Kd.R_mono (Kd.R_far (p := ⟨gb509, 13, none⟩) (Kd.R_far (p := ⟨gb509, 12, none⟩) (Kd.R_far (p := ⟨gb509, 11, none⟩) (Kd.R_far (p := ⟨gb509, 10, none⟩) (Kd.R_far (p := ⟨gb509, 9, none⟩) (Kd.R_far (p := ⟨gb509, 8, none⟩) (Kd.R_far (p := ⟨gb509, 7, none⟩) (Kd.R_far (p := ⟨gb509, 6, none⟩) (Kd.R_far (p := ⟨gb509, 5, none⟩) (Kd.R_far (p := ⟨gb509, 4, none⟩) (Kd.R_far (p := ⟨gb509, 3, none⟩) (Kd.R_far (p := ⟨gb509, 2, none⟩) (Kd.R_far (p := ⟨gb509, 1, none⟩) (Kd.R_far (p := ⟨gb509, 0, none⟩) (Kd.R_types HO502.out BK509.out (by decide)) (fun _ hk => hk.2) (.string t487)) (fun _ hk => hk.2) (.int .i64 t488)) (fun _ hk => hk.2) (.string t489)) (fun _ hk => hk.2) (.slice Ao30 t490.length co30)) (fun _ hk => hk.2) (.int .i64 t493)) (fun _ hk => hk.2) (.int .i64 t494)) (fun _ hk => hk.2) (.int .i64 t495)) (fun _ hk => hk.2) (.slice Ao31 t496.length co31)) (fun _ hk => hk.2) (.int .i64 t499)) (fun _ hk => hk.2) (.slice Ao32 t500.length co32)) (fun _ hk => hk.2) (.int .i64 t503)) (fun _ hk => hk.2) (.bool t504)) (fun _ hk => hk.2) (.slice Ao33 t505.length co33)) (fun _ hk => hk.2) (.int .i64 t508)) (fun _ h_ => h_.1)))); (case side6 => exact (Kd.R_reads' HO502.out).2.1); (case side7 => refine (Kd.S_reads' (e := 104) (base := w.heap.size) (ok := fun k_ => ((((some k_ ≠ (.slice Ao30 t490.length co30 : Value).ownBlock ∧ some k_ ≠ (.slice Ao32 t500.length co32 : Value).ownBlock) ∧ some k_ ≠ (.slice Ao20 t467.length co20 : Value).ownBlock) ∧ some k_ ≠ (.slice Ao22 t477.length co22 : Value).ownBlock) ∧ some k_ ≠ (.slice Ao23 t482.length co23 : Value).ownBlock)) (n := t505.length) (c := co33) ?_).2.2; exact (by (with_reducible repeat (first | apply Kd.S_alloc | apply Kd.S_drewN | apply Kd.S_drew)); exact (Kd.S_mono (Kd.S_far (p := ⟨gb509, 13, none⟩) (Kd.S_far (p := ⟨gb509, 12, none⟩) (Kd.S_far (p := ⟨gb509, 11, none⟩) (Kd.S_far (p := ⟨gb509, 10, none⟩) (Kd.S_far (p := ⟨gb509, 9, none⟩) (Kd.S_far (p := ⟨gb509, 8, none⟩) (Kd.S_far (p := ⟨gb509, 7, none⟩) (Kd.S_far (p := ⟨gb509, 6, none⟩) (Kd.S_far (p := ⟨gb509, 5, none⟩) (Kd.S_far (p := ⟨gb509, 4, none⟩) (Kd.S_far (p := ⟨gb509, 3, none⟩) (Kd.S_far (p := ⟨gb509, 2, none⟩) (Kd.S_far (p := ⟨gb509, 1, none⟩) (Kd.S_far (p := ⟨gb509, 0, none⟩) (Kd.S_types HO507.out BK509.out (by decide)) (fun _ hk => hk.2) (.string t487)) (fun _ hk => hk.2) (.int .i64 t488)) (fun _ hk => hk.2) (.string t489)) (fun _ hk => hk.2) (.slice Ao30 t490.length co30)) (fun _ hk => hk.2) (.int .i64 t493)) (fun _ hk => hk.2) (.int .i64 t494)) (fun _ hk => hk.2) (.int .i64 t495)) (fun _ hk => hk.2) (.slice Ao31 t496.length co31)) (fun _ hk => hk.2) (.int .i64 t499)) (fun _ hk => hk.2) (.slice Ao32 t500.length co32)) (fun _ hk => hk.2) (.int .i64 t503)) (fun _ hk => hk.2) (.bool t504)) (fun _ hk => hk.2) (.slice Ao33 t505.length co33)) (fun _ hk => hk.2) (.int .i64 t508)) (fun _ h_ => h_.1)))); (case side8 => exact (Kd.S_reads' HO507.out).2.1); rintro e w34 ⟨rfl, hb⟩; refine ⟨_, rfl, ?_⟩; replace HO469 := Aside0.mk (Kd.R_below (by (with_reducible repeat (first | apply Kd.R_alloc | apply Kd.R_drewN | apply Kd.R_drew)); exact (Kd.R_mono (Kd.R_far (p := ⟨gb509, 13, none⟩) (Kd.R_far (p := ⟨gb509, 12, none⟩) (Kd.R_far (p := ⟨gb509, 11, none⟩) (Kd.R_far (p := ⟨gb509, 10, none⟩) (Kd.R_far (p := ⟨gb509, 9, none⟩) (Kd.R_far (p := ⟨gb509, 8, none⟩) (Kd.R_far (p := ⟨gb509, 7, none⟩) (Kd.R_far (p := ⟨gb509, 6, none⟩) (Kd.R_far (p := ⟨gb509, 5, none⟩) (Kd.R_far (p := ⟨gb509, 4, none⟩) (Kd.R_far (p := ⟨gb509, 3, none⟩) (Kd.R_far (p := ⟨gb509, 2, none⟩) (Kd.R_far (p := ⟨gb509, 1, none⟩) (Kd.R_far (p := ⟨gb509, 0, none⟩) (Kd.R_types HO469.out BK509.out (by decide)) (fun _ hk => hk.2) (.string t487)) (fun _ hk => hk.2) (.int .i64 t488)) (fun _ hk => hk.2) (.string t489)) (fun _ hk => hk.2) (.slice Ao30 t490.length co30)) (fun _ hk => hk.2) (.int .i64 t493)) (fun _ hk => hk.2) (.int .i64 t494)) (fun _ hk => hk.2) (.int .i64 t495)) (fun _ hk => hk.2) (.slice Ao31 t496.length co31)) (fun _ hk => hk.2) (.int .i64 t499)) (fun _ hk => hk.2) (.slice Ao32 t500.length co32)) (fun _ hk => hk.2) (.int .i64 t503)) (fun _ hk => hk.2) (.bool t504)) (fun _ hk => hk.2) (.slice Ao33 t505.length co33)) (fun _ hk => hk.2) (.int .i64 t508)) (fun _ h_ => h_.1))) hb); replace HO475 := Aside0.mk (Kd.R_below (by (with_reducible repeat (first | apply Kd.R_alloc | apply Kd.R_drewN | apply Kd.R_drew)); exact (Kd.R_mono (Kd.R_far (p := ⟨gb509, 13, none⟩) (Kd.R_far (p := ⟨gb509, 12, none⟩) (Kd.R_far (p := ⟨gb509, 11, none⟩) (Kd.R_far (p := ⟨gb509, 10, none⟩) (Kd.R_far (p := ⟨gb509, 9, none⟩) (Kd.R_far (p := ⟨gb509, 8, none⟩) (Kd.R_far (p := ⟨gb509, 7, none⟩) (Kd.R_far (p := ⟨gb509, 6, none⟩) (Kd.R_far (p := ⟨gb509, 5, none⟩) (Kd.R_far (p := ⟨gb509, 4, none⟩) (Kd.R_far (p := ⟨gb509, 3, none⟩) (Kd.R_far (p := ⟨gb509, 2, none⟩) (Kd.R_far (p := ⟨gb509, 1, none⟩) (Kd.R_far (p := ⟨gb509, 0, none⟩) (Kd.R_types HO475.out BK509.out (by decide)) (fun _ hk => hk.2) (.string t487)) (fun _ hk => hk.2) (.int .i64 t488)) (fun _ hk => hk.2) (.string t489)) (fun _ hk => hk.2) (.slice Ao30 t490.length co30)) (fun _ hk => hk.2) (.int .i64 t493)) (fun _ hk => hk.2) (.int .i64 t494)) (fun _ hk => hk.2) (.int .i64 t495)) (fun _ hk => hk.2) (.slice Ao31 t496.length co31)) (fun _ hk => hk.2) (.int .i64 t499)) (fun _ hk => hk.2) (.slice Ao32 t500.length co32)) (fun _ hk => hk.2) (.int .i64 t503)) (fun _ hk => hk.2) (.bool t504)) (fun _ hk => hk.2) (.slice Ao33 t505.length co33)) (fun _ hk => hk.2) (.int .i64 t508)) (fun _ h_ => h_.1))) hb); replace HO479 := Aside0.mk (Kd.R_below (by (with_reducible repeat (first | apply Kd.R_alloc | apply Kd.R_drewN | apply Kd.R_drew)); exact (Kd.R_mono (Kd.R_far (p := ⟨gb509, 13, none⟩) (Kd.R_far (p := ⟨gb509, 12, none⟩) (Kd.R_far (p := ⟨gb509, 11, none⟩) (Kd.R_far (p := ⟨gb509, 10, none⟩) (Kd.R_far (p := ⟨gb509, 9, none⟩) (Kd.R_far (p := ⟨gb509, 8, none⟩) (Kd.R_far (p := ⟨gb509, 7, none⟩) (Kd.R_far (p := ⟨gb509, 6, none⟩) (Kd.R_far (p := ⟨gb509, 5, none⟩) (Kd.R_far (p := ⟨gb509, 4, none⟩) (Kd.R_far (p := ⟨gb509, 3, none⟩) (Kd.R_far (p := ⟨gb509, 2, none⟩) (Kd.R_far (p := ⟨gb509, 1, none⟩) (Kd.R_far (p := ⟨gb509, 0, none⟩) (Kd.R_types HO479.out BK509.out (by decide)) (fun _ hk => hk.2) (.string t487)) (fun _ hk => hk.2) (.int .i64 t488)) (fun _ hk => hk.2) (.string t489)) (fun _ hk => hk.2) (.slice Ao30 t490.length co30)) (fun _ hk => hk.2) (.int .i64 t493)) (fun _ hk => hk.2) (.int .i64 t494)) (fun _ hk => hk.2) (.int .i64 t495)) (fun _ hk => hk.2) (.slice Ao31 t496.length co31)) (fun _ hk => hk.2) (.int .i64 t499)) (fun _ hk => hk.2) (.slice Ao32 t500.length co32)) (fun _ hk => hk.2) (.int .i64 t503)) (fun _ hk => hk.2) (.bool t504)) (fun _ hk => hk.2) (.slice Ao33 t505.length co33)) (fun _ hk => hk.2) (.int .i64 t508)) (fun _ h_ => h_.1))) hb); replace HO484 := Aside0.mk (Kd.S_below (by (with_reducible repeat (first | apply Kd.S_alloc | apply Kd.S_drewN | apply Kd.S_drew)); exact (Kd.S_mono (Kd.S_far (p := ⟨gb509, 13, none⟩) (Kd.S_far (p := ⟨gb509, 12, none⟩) (Kd.S_far (p := ⟨gb509, 11, none⟩) (Kd.S_far (p := ⟨gb509, 10, none⟩) (Kd.S_far (p := ⟨gb509, 9, none⟩) (Kd.S_far (p := ⟨gb509, 8, none⟩) (Kd.S_far (p := ⟨gb509, 7, none⟩) (Kd.S_far (p := ⟨gb509, 6, none⟩) (Kd.S_far (p := ⟨gb509, 5, none⟩) (Kd.S_far (p := ⟨gb509, 4, none⟩) (Kd.S_far (p := ⟨gb509, 3, none⟩) (Kd.S_far (p := ⟨gb509, 2, none⟩) (Kd.S_far (p := ⟨gb509, 1, none⟩) (Kd.S_far (p := ⟨gb509, 0, none⟩) (Kd.S_types HO484.out BK509.out (by decide)) (fun _ hk => hk.2) (.string t487)) (fun _ hk => hk.2) (.int .i64 t488)) (fun _ hk => hk.2) (.string t489)) (fun _ hk => hk.2) (.slice Ao30 t490.length co30)) (fun _ hk => hk.2) (.int .i64 t493)) (fun _ hk => hk.2) (.int .i64 t494)) (fun _ hk => hk.2) (.int .i64 t495)) (fun _ hk => hk.2) (.slice Ao31 t496.length co31)) (fun _ hk => hk.2) (.int .i64 t499)) (fun _ hk => hk.2) (.slice Ao32 t500.length co32)) (fun _ hk => hk.2) (.int .i64 t503)) (fun _ hk => hk.2) (.bool t504)) (fun _ hk => hk.2) (.slice Ao33 t505.length co33)) (fun _ hk => hk.2) (.int .i64 t508)) (fun _ h_ => h_.1))) hb); replace HO492 := Aside0.mk (Kd.R_below (by (with_reducible repeat (first | apply Kd.R_alloc | apply Kd.R_drewN | apply Kd.R_drew)); exact (Kd.R_mono (Kd.R_far (p := ⟨gb509, 13, none⟩) (Kd.R_far (p := ⟨gb509, 12, none⟩) (Kd.R_far (p := ⟨gb509, 11, none⟩) (Kd.R_far (p := ⟨gb509, 10, none⟩) (Kd.R_far (p := ⟨gb509, 9, none⟩) (Kd.R_far (p := ⟨gb509, 8, none⟩) (Kd.R_far (p := ⟨gb509, 7, none⟩) (Kd.R_far (p := ⟨gb509, 6, none⟩) (Kd.R_far (p := ⟨gb509, 5, none⟩) (Kd.R_far (p := ⟨gb509, 4, none⟩) (Kd.R_far (p := ⟨gb509, 3, none⟩) (Kd.R_far (p := ⟨gb509, 2, none⟩) (Kd.R_far (p := ⟨gb509, 1, none⟩) (Kd.R_far (p := ⟨gb509, 0, none⟩) (Kd.R_types HO492.out BK509.out (by decide)) (fun _ hk => hk.2) (.string t487)) (fun _ hk => hk.2) (.int .i64 t488)) (fun _ hk => hk.2) (.string t489)) (fun _ hk => hk.2) (.slice Ao30 t490.length co30)) (fun _ hk => hk.2) (.int .i64 t493)) (fun _ hk => hk.2) (.int .i64 t494)) (fun _ hk => hk.2) (.int .i64 t495)) (fun _ hk => hk.2) (.slice Ao31 t496.length co31)) (fun _ hk => hk.2) (.int .i64 t499)) (fun _ hk => hk.2) (.slice Ao32 t500.length co32)) (fun _ hk => hk.2) (.int .i64 t503)) (fun _ hk => hk.2) (.bool t504)) (fun _ hk => hk.2) (.slice Ao33 t505.length co33)) (fun _ hk => hk.2) (.int .i64 t508)) (fun _ h_ => h_.1))) hb); replace HO498 := Aside0.mk (Kd.R_below (by (with_reducible repeat (first | apply Kd.R_alloc | apply Kd.R_drewN | apply Kd.R_drew)); exact (Kd.R_mono (Kd.R_far (p := ⟨gb509, 13, none⟩) (Kd.R_far (p := ⟨gb509, 12, none⟩) (Kd.R_far (p := ⟨gb509, 11, none⟩) (Kd.R_far (p := ⟨gb509, 10, none⟩) (Kd.R_far (p := ⟨gb509, 9, none⟩) (Kd.R_far (p := ⟨gb509, 8, none⟩) (Kd.R_far (p := ⟨gb509, 7, none⟩) (Kd.R_far (p := ⟨gb509, 6, none⟩) (Kd.R_far (p := ⟨gb509, 5, none⟩) (Kd.R_far (p := ⟨gb509, 4, none⟩) (Kd.R_far (p := ⟨gb509, 3, none⟩) (Kd.R_far (p := ⟨gb509, 2, none⟩) (Kd.R_far (p := ⟨gb509, 1, none⟩) (Kd.R_far (p := ⟨gb509, 0, none⟩) (Kd.R_types HO498.out BK509.out (by decide)) (fun _ hk => hk.2) (.string t487)) (fun _ hk => hk.2) (.int .i64 t488)) (fun _ hk => hk.2) (.string t489)) (fun _ hk => hk.2) (.slice Ao30 t490.length co30)) (fun _ hk => hk.2) (.int .i64 t493)) (fun _ hk => hk.2) (.int .i64 t494)) (fun _ hk => hk.2) (.int .i64 t495)) (fun _ hk => hk.2) (.slice Ao31 t496.length co31)) (fun _ hk => hk.2) (.int .i64 t499)) (fun _ hk => hk.2) (.slice Ao32 t500.length co32)) (fun _ hk => hk.2) (.int .i64 t503)) (fun _ hk => hk.2) (.bool t504)) (fun _ hk => hk.2) (.slice Ao33 t505.length co33)) (fun _ hk => hk.2) (.int .i64 t508)) (fun _ h_ => h_.1))) hb); replace HO502 := Aside0.mk (Kd.R_below (by (with_reducible repeat (first | apply Kd.R_alloc | apply Kd.R_drewN | apply Kd.R_drew)); exact (Kd.R_mono (Kd.R_far (p := ⟨gb509, 13, none⟩) (Kd.R_far (p := ⟨gb509, 12, none⟩) (Kd.R_far (p := ⟨gb509, 11, none⟩) (Kd.R_far (p := ⟨gb509, 10, none⟩) (Kd.R_far (p := ⟨gb509, 9, none⟩) (Kd.R_far (p := ⟨gb509, 8, none⟩) (Kd.R_far (p := ⟨gb509, 7, none⟩) (Kd.R_far (p := ⟨gb509, 6, none⟩) (Kd.R_far (p := ⟨gb509, 5, none⟩) (Kd.R_far (p := ⟨gb509, 4, none⟩) (Kd.R_far (p := ⟨gb509, 3, none⟩) (Kd.R_far (p := ⟨gb509, 2, none⟩) (Kd.R_far (p := ⟨gb509, 1, none⟩) (Kd.R_far (p := ⟨gb509, 0, none⟩) (Kd.R_types HO502.out BK509.out (by decide)) (fun _ hk => hk.2) (.string t487)) (fun _ hk => hk.2) (.int .i64 t488)) (fun _ hk => hk.2) (.string t489)) (fun _ hk => hk.2) (.slice Ao30 t490.length co30)) (fun _ hk => hk.2) (.int .i64 t493)) (fun _ hk => hk.2) (.int .i64 t494)) (fun _ hk => hk.2) (.int .i64 t495)) (fun _ hk => hk.2) (.slice Ao31 t496.length co31)) (fun _ hk => hk.2) (.int .i64 t499)) (fun _ hk => hk.2) (.slice Ao32 t500.length co32)) (fun _ hk => hk.2) (.int .i64 t503)) (fun _ hk => hk.2) (.bool t504)) (fun _ hk => hk.2) (.slice Ao33 t505.length co33)) (fun _ hk => hk.2) (.int .i64 t508)) (fun _ h_ => h_.1))) hb); replace HO507 := Aside0.mk (Kd.S_below (by (with_reducible repeat (first | apply Kd.S_alloc | apply Kd.S_drewN | apply Kd.S_drew)); exact (Kd.S_mono (Kd.S_far (p := ⟨gb509, 13, none⟩) (Kd.S_far (p := ⟨gb509, 12, none⟩) (Kd.S_far (p := ⟨gb509, 11, none⟩) (Kd.S_far (p := ⟨gb509, 10, none⟩) (Kd.S_far (p := ⟨gb509, 9, none⟩) (Kd.S_far (p := ⟨gb509, 8, none⟩) (Kd.S_far (p := ⟨gb509, 7, none⟩) (Kd.S_far (p := ⟨gb509, 6, none⟩) (Kd.S_far (p := ⟨gb509, 5, none⟩) (Kd.S_far (p := ⟨gb509, 4, none⟩) (Kd.S_far (p := ⟨gb509, 3, none⟩) (Kd.S_far (p := ⟨gb509, 2, none⟩) (Kd.S_far (p := ⟨gb509, 1, none⟩) (Kd.S_far (p := ⟨gb509, 0, none⟩) (Kd.S_types HO507.out BK509.out (by decide)) (fun _ hk => hk.2) (.string t487)) (fun _ hk => hk.2) (.int .i64 t488)) (fun _ hk => hk.2) (.string t489)) (fun _ hk => hk.2) (.slice Ao30 t490.length co30)) (fun _ hk => hk.2) (.int .i64 t493)) (fun _ hk => hk.2) (.int .i64 t494)) (fun _ hk => hk.2) (.int .i64 t495)) (fun _ hk => hk.2) (.slice Ao31 t496.length co31)) (fun _ hk => hk.2) (.int .i64 t499)) (fun _ hk => hk.2) (.slice Ao32 t500.length co32)) (fun _ hk => hk.2) (.int .i64 t503)) (fun _ hk => hk.2) (.bool t504)) (fun _ hk => hk.2) (.slice Ao33 t505.length co33)) (fun _ hk => hk.2) (.int .i64 t508)) (fun _ h_ => h_.1))) hb); replace BK462 := Aside0.mk (blk_below (g := gb462) (o := .cells #[.string a0_0, .int .i64 a0_1, .string a0_2, .slice A0_3 l0_3.length c0_3, .int .i64 a0_4, .int .i64 a0_5, .int .i64 a0_6, .slice A0_7 l0_7.length c0_7, .int .i64 a0_8, .slice A0_9 l0_9.length c0_9, .int .i64 a0_10, .bool a0_11, .slice A0_12 l0_12.length c0_12, .int .i64 a0_13] 27 (0, 0)) (by (with_reducible repeat (first | refine blk_drewN ?_ _ | refine blk_drew ?_ | refine blk_alloc ?_ _)); refine blk_far ?_ NB462_509.out _; (with_reducible repeat (first | refine blk_drewN ?_ _ | refine blk_drew ?_ | refine blk_alloc ?_ _)); refine blk_far ?_ NB462_509.out _; (with_reducible repeat (first | refine blk_drewN ?_ _ | refine blk_drew ?_ | refine blk_alloc ?_ _)); refine blk_far ?_ NB462_509.out _; (with_reducible repeat (first | refine blk_drewN ?_ _ | refine blk_drew ?_ | refine blk_alloc ?_ _)); refine blk_far ?_ NB462_509.out _; (with_reducible repeat (first | refine blk_drewN ?_ _ | refine blk_drew ?_ | refine blk_alloc ?_ _)); refine blk_far ?_ NB462_509.out _; (with_reducible repeat (first | refine blk_drewN ?_ _ | refine blk_drew ?_ | refine blk_alloc ?_ _)); refine blk_far ?_ NB462_509.out _; (with_reducible repeat (first | refine blk_drewN ?_ _ | refine blk_drew ?_ | refine blk_alloc ?_ _)); refine blk_far ?_ NB462_509.out _; (with_reducible repeat (first | refine blk_drewN ?_ _ | refine blk_drew ?_ | refine blk_alloc ?_ _)); refine blk_far ?_ NB462_509.out _; (with_reducible repeat (first | refine blk_drewN ?_ _ | refine blk_drew ?_ | refine blk_alloc ?_ _)); refine blk_far ?_ NB462_509.out _; (with_reducible repeat (first | refine blk_drewN ?_ _ | refine blk_drew ?_ | refine blk_alloc ?_ _)); refine blk_far ?_ NB462_509.out _; (with_reducible repeat (first | refine blk_drewN ?_ _ | refine blk_drew ?_ | refine blk_alloc ?_ _)); refine blk_far ?_ NB462_509.out _; (with_reducible repeat (first | refine blk_drewN ?_ _ | refine blk_drew ?_ | refine blk_alloc ?_ _)); refine blk_far ?_ NB462_509.out _; (with_reducible repeat (first | refine blk_drewN ?_ _ | refine blk_drew ?_ | refine blk_alloc ?_ _)); refine blk_far ?_ NB462_509.out _; (with_reducible repeat (first | refine blk_drewN ?_ _ | refine blk_drew ?_ | refine blk_alloc ?_ _)); refine blk_far ?_ NB462_509.out _; (with_reducible repeat (first | refine blk_drewN ?_ _ | refine blk_drew ?_ | refine blk_alloc ?_ _)); exact BK462.out) hb); replace BK509 := Aside0.mk (blk_below (g := gb509) (o := .cells #[.string t487, .int .i64 t488, .string t489, .slice Ao30 t490.length co30, .int .i64 t493, .int .i64 t494, .int .i64 t495, .slice Ao31 t496.length co31, .int .i64 t499, .slice Ao32 t500.length co32, .int .i64 t503, .bool t504, .slice Ao33 t505.length co33, .int .i64 t508] 33 (0, 0)) (by (with_reducible repeat (first | refine blk_drewN ?_ _ | refine blk_drew ?_ | refine blk_alloc ?_ _)); refine blk_put (cs := #[.string t487, .int .i64 t488, .string t489, .slice Ao30 t490.length co30, .int .i64 t493, .int .i64 t494, .int .i64 t495, .slice Ao31 t496.length co31, .int .i64 t499, .slice Ao32 t500.length co32, .int .i64 t503, .bool t504, .slice Ao33 t505.length co33, .int .i64 0]) ?_ 13 _ rfl; (with_reducible repeat (first | refine blk_drewN ?_ _ | refine blk_drew ?_ | refine blk_alloc ?_ _)); refine blk_put (cs := #[.string t487, .int .i64 t488, .string t489, .slice Ao30 t490.length co30, .int .i64 t493, .int .i64 t494, .int .i64 t495, .slice Ao31 t496.length co31, .int .i64 t499, .slice Ao32 t500.length co32, .int .i64 t503, .bool t504, .slice none 0 0, .int .i64 0]) ?_ 12 _ rfl; (with_reducible repeat (first | refine blk_drewN ?_ _ | refine blk_drew ?_ | refine blk_alloc ?_ _)); refine blk_put (cs := #[.string t487, .int .i64 t488, .string t489, .slice Ao30 t490.length co30, .int .i64 t493, .int .i64 t494, .int .i64 t495, .slice Ao31 t496.length co31, .int .i64 t499, .slice Ao32 t500.length co32, .int .i64 t503, .bool false, .slice none 0 0, .int .i64 0]) ?_ 11 _ rfl; (with_reducible repeat (first | refine blk_drewN ?_ _ | refine blk_drew ?_ | refine blk_alloc ?_ _)); refine blk_put (cs := #[.string t487, .int .i64 t488, .string t489, .slice Ao30 t490.length co30, .int .i64 t493, .int .i64 t494, .int .i64 t495, .slice Ao31 t496.length co31, .int .i64 t499, .slice Ao32 t500.length co32, .int .i64 0, .bool false, .slice none 0 0, .int .i64 0]) ?_ 10 _ rfl; (with_reducible repeat (first | refine blk_drewN ?_ _ | refine blk_drew ?_ | refine blk_alloc ?_ _)); refine blk_put (cs := #[.string t487, .int .i64 t488, .string t489, .slice Ao30 t490.length co30, .int .i64 t493, .int .i64 t494, .int .i64 t495, .slice Ao31 t496.length co31, .int .i64 t499, .slice none 0 0, .int .i64 0, .bool false, .slice none 0 0, .int .i64 0]) ?_ 9 _ rfl; (with_reducible repeat (first | refine blk_drewN ?_ _ | refine blk_drew ?_ | refine blk_alloc ?_ _)); refine blk_put (cs := #[.string t487, .int .i64 t488, .string t489, .slice Ao30 t490.length co30, .int .i64 t493, .int .i64 t494, .int .i64 t495, .slice Ao31 t496.length co31, .int .i64 0, .slice none 0 0, .int .i64 0, .bool false, .slice none 0 0, .int .i64 0]) ?_ 8 _ rfl; (with_reducible repeat (first | refine blk_drewN ?_ _ | refine blk_drew ?_ | refine blk_alloc ?_ _)); refine blk_put (cs := #[.string t487, .int .i64 t488, .string t489, .slice Ao30 t490.length co30, .int .i64 t493, .int .i64 t494, .int .i64 t495, .slice none 0 0, .int .i64 0, .slice none 0 0, .int .i64 0, .bool false, .slice none 0 0, .int .i64 0]) ?_ 7 _ rfl; (with_reducible repeat (first | refine blk_drewN ?_ _ | refine blk_drew ?_ | refine blk_alloc ?_ _)); refine blk_put (cs := #[.string t487, .int .i64 t488, .string t489, .slice Ao30 t490.length co30, .int .i64 t493, .int .i64 t494, .int .i64 0, .slice none 0 0, .int .i64 0, .slice none 0 0, .int .i64 0, .bool false, .slice none 0 0, .int .i64 0]) ?_ 6 _ rfl; (with_reducible repeat (first | refine blk_drewN ?_ _ | refine blk_drew ?_ | refine blk_alloc ?_ _)); refine blk_put (cs := #[.string t487, .int .i64 t488, .string t489, .slice Ao30 t490.length co30, .int .i64 t493, .int .i64 0, .int .i64 0, .slice none 0 0, .int .i64 0, .slice none 0 0, .int .i64 0, .bool false, .slice none 0 0, .int .i64 0]) ?_ 5 _ rfl; (with_reducible repeat (first | refine blk_drewN ?_ _ | refine blk_drew ?_ | refine blk_alloc ?_ _)); refine blk_put (cs := #[.string t487, .int .i64 t488, .string t489, .slice Ao30 t490.length co30, .int .i64 0, .int .i64 0, .int .i64 0, .slice none 0 0, .int .i64 0, .slice none 0 0, .int .i64 0, .bool false, .slice none 0 0, .int .i64 0]) ?_ 4 _ rfl; (with_reducible repeat (first | refine blk_drewN ?_ _ | refine blk_drew ?_ | refine blk_alloc ?_ _)); refine blk_put (cs := #[.string t487, .int .i64 t488, .string t489, .slice none 0 0, .int .i64 0, .int .i64 0, .int .i64 0, .slice none 0 0, .int .i64 0, .slice none 0 0, .int .i64 0, .bool false, .slice none 0 0, .int .i64 0]) ?_ 3 _ rfl; (with_reducible repeat (first | refine blk_drewN ?_ _ | refine blk_drew ?_ | refine blk_alloc ?_ _)); refine blk_put (cs := #[.string t487, .int .i64 t488, .string (⟨#[]⟩ : ByteArray), .slice none 0 0, .int .i64 0, .int .i64 0, .int .i64 0, .slice none 0 0, .int .i64 0, .slice none 0 0, .int .i64 0, .bool false, .slice none 0 0, .int .i64 0]) ?_ 2 _ rfl; (with_reducible repeat (first | refine blk_drewN ?_ _ | refine blk_drew ?_ | refine blk_alloc ?_ _)); refine blk_put (cs := #[.string t487, .int .i64 0, .string (⟨#[]⟩ : ByteArray), .slice none 0 0, .int .i64 0, .int .i64 0, .int .i64 0, .slice none 0 0, .int .i64 0, .slice none 0 0, .int .i64 0, .bool false, .slice none 0 0, .int .i64 0]) ?_ 1 _ rfl; (with_reducible repeat (first | refine blk_drewN ?_ _ | refine blk_drew ?_ | refine blk_alloc ?_ _)); refine blk_put (cs := #[.string (⟨#[]⟩ : ByteArray), .int .i64 0, .string (⟨#[]⟩ : ByteArray), .slice none 0 0, .int .i64 0, .int .i64 0, .int .i64 0, .slice none 0 0, .int .i64 0, .slice none 0 0, .int .i64 0, .bool false, .slice none 0 0, .int .i64 0]) ?_ 0 _ rfl; (with_reducible repeat (first | refine blk_drewN ?_ _ | refine blk_drew ?_ | refine blk_alloc ?_ _)); exact BK509.out) hb); replace HB := Aside0.mk (below_step hs_ hb); (try clear hb)))
    replace HO469 := Aside0.mk (Kd.R_drew HO469.out)
    replace HO475 := Aside0.mk (Kd.R_drew HO475.out)
    replace HO479 := Aside0.mk (Kd.R_drew HO479.out)
    replace HO484 := Aside0.mk (Kd.S_drew HO484.out)
    replace HO492 := Aside0.mk (Kd.R_drew HO492.out)
    replace HO498 := Aside0.mk (Kd.R_drew HO498.out)
    replace HO502 := Aside0.mk (Kd.R_drew HO502.out)
    replace HO507 := Aside0.mk (Kd.S_drew HO507.out)
    replace BK462 := Aside0.mk (blk_drew BK462.out)
    replace BK509 := Aside0.mk (blk_drew BK509.out)
    replace HB := Aside0.mk (below_drew1 HB.out)
    refine start_ (n := 5) (S := fun w' => w'.cell? ⟨gb509, 0, none⟩ = some (.string t487) ∧ w'.cell? ⟨gb509, 1, none⟩ = some (.int .i64 t488) ∧ w'.cell? ⟨gb509, 2, none⟩ = some (.string t489) ∧ w'.cell? ⟨gb509, 3, none⟩ = some (.slice Ao30 t490.length co30) ∧ w'.cell? ⟨gb509, 4, none⟩ = some (.int .i64 t493) ∧ w'.cell? ⟨gb509, 5, none⟩ = some (.int .i64 t494) ∧ w'.cell? ⟨gb509, 6, none⟩ = some (.int .i64 t495) ∧ w'.cell? ⟨gb509, 7, none⟩ = some (.slice Ao31 t496.length co31) ∧ w'.cell? ⟨gb509, 8, none⟩ = some (.int .i64 t499) ∧ w'.cell? ⟨gb509, 9, none⟩ = some (.slice Ao32 t500.length co32) ∧ w'.cell? ⟨gb509, 10, none⟩ = some (.int .i64 t503) ∧ w'.cell? ⟨gb509, 11, none⟩ = some (.bool t504) ∧ w'.cell? ⟨gb509, 12, none⟩ = some (.slice Ao33 t505.length co33) ∧ w'.cell? ⟨gb509, 13, none⟩ = some (.int .i64 t508) ∧ w'.cell? ⟨gb462, 0, none⟩ = some (.string a0_0) ∧ w'.cell? ⟨gb462, 1, none⟩ = some (.int .i64 a0_1) ∧ w'.cell? ⟨gb462, 2, none⟩ = some (.string a0_2) ∧ w'.cell? ⟨gb462, 3, none⟩ = some (.slice A0_3 l0_3.length c0_3) ∧ w'.cell? ⟨gb462, 4, none⟩ = some (.int .i64 a0_4) ∧ w'.cell? ⟨gb462, 5, none⟩ = some (.int .i64 a0_5) ∧ w'.cell? ⟨gb462, 6, none⟩ = some (.int .i64 a0_6) ∧ w'.cell? ⟨gb462, 7, none⟩ = some (.slice A0_7 l0_7.length c0_7) ∧ w'.cell? ⟨gb462, 8, none⟩ = some (.int .i64 a0_8) ∧ w'.cell? ⟨gb462, 9, none⟩ = some (.slice A0_9 l0_9.length c0_9) ∧ w'.cell? ⟨gb462, 10, none⟩ = some (.int .i64 a0_10) ∧ w'.cell? ⟨gb462, 11, none⟩ = some (.bool a0_11) ∧ w'.cell? ⟨gb462, 12, none⟩ = some (.slice A0_12 l0_12.length c0_12) ∧ w'.cell? ⟨gb462, 13, none⟩ = some (.int .i64 a0_13)) (ds := []) #[false, false, false, false, false] (by kernel_rfl) rfl rfl ⟨(blk_cell BK509.out 0).trans rfl, (blk_cell BK509.out 1).trans rfl, (blk_cell BK509.out 2).trans rfl, (blk_cell BK509.out 3).trans rfl, (blk_cell BK509.out 4).trans rfl, (blk_cell BK509.out 5).trans rfl, (blk_cell BK509.out 6).trans rfl, (blk_cell BK509.out 7).trans rfl, (blk_cell BK509.out 8).trans rfl, (blk_cell BK509.out 9).trans rfl, (blk_cell BK509.out 10).trans rfl, (blk_cell BK509.out 11).trans rfl, (blk_cell BK509.out 12).trans rfl, (blk_cell BK509.out 13).trans rfl, (blk_cell BK462.out 0).trans rfl, (blk_cell BK462.out 1).trans rfl, (blk_cell BK462.out 2).trans rfl, (blk_cell BK462.out 3).trans rfl, (blk_cell BK462.out 4).trans rfl, (blk_cell BK462.out 5).trans rfl, (blk_cell BK462.out 6).trans rfl, (blk_cell BK462.out 7).trans rfl, (blk_cell BK462.out 8).trans rfl, (blk_cell BK462.out 9).trans rfl, (blk_cell BK462.out 10).trans rfl, (blk_cell BK462.out 11).trans rfl, (blk_cell BK462.out 12).trans rfl, (blk_cell BK462.out 13).trans rfl⟩ (fun hHeld => ?_)
    generalize w34.drew = w35 at HO469 HO475 HO479 HO484 HO492 HO498 HO502 HO507 BK462 BK509 HB hHeld ⊢
    refine ta_ (i := 0) (N := some 22) (v := ?_) (a' := ?_) rfl rfl (by kernel_rfl) (fun _ _ _ h => h) (Or.inl ⟨by rfl, ?_⟩) hHeld ?_ ?_; rotate_left
    · rintro w' ⟨s0, s1, s2, s3, s4, s5, s6, s7, s8, s9, s10, s11, s12, s13, s14, s15, s16, s17, s18, s19, s20, s21, s22, s23, s24, s25, s26, s27⟩; go_simp; all_goals (first | with_reducible rfl | (simp [Instr.field, go_sem]; rfl))
    rotate_left
    · simp only [Act.put, List.setIfInBounds_toArray, List.set_cons_zero, List.set_cons_succ, i64_w, i32_w]; rfl
    refine ta_ (i := 1) (N := some 23) (v := ?_) (a' := ?_) rfl rfl (by kernel_rfl) (fun _ _ _ h => h) (Or.inl ⟨by rfl, ?_⟩) hHeld ?_ ?_; rotate_left
    · rintro w' ⟨s0, s1, s2, s3, s4, s5, s6, s7, s8, s9, s10, s11, s12, s13, s14, s15, s16, s17, s18, s19, s20, s21, s22, s23, s24, s25, s26, s27⟩; go_simp; all_goals (first | with_reducible rfl | (simp [Instr.field, go_sem]; rfl))
    rotate_left
    · simp only [Act.put, List.setIfInBounds_toArray, List.set_cons_zero, List.set_cons_succ, i64_w, i32_w]; rfl
    refine on_ (i := 2) (N := some 24) rfl rfl (by kernel_rfl) (by decide) (fun K hK => ?_)
    refine goes_ Try.func8 (by kernel_rfl) rfl #[.agg #[.string a0_0, .int .i64 a0_1, .string a0_2, .slice A0_3 l0_3.length c0_3, .int .i64 a0_4, .int .i64 a0_5, .int .i64 a0_6, .slice A0_7 l0_7.length c0_7, .int .i64 a0_8, .slice A0_9 l0_9.length c0_9, .int .i64 a0_10, .bool a0_11, .slice A0_12 l0_12.length c0_12, .int .i64 a0_13]] (by rfl) rfl rfl (by (try simp only [List.map_toArray, List.map_cons, List.map_nil]); first | done | rfl | (simp only [List.length_drop, List.length_take]; rfl)) ?_
    with_reducible refine (laws_toCmd.calls k a0_0 a0_1 a0_2 _ _ l0_3 a0_4 a0_5 a0_6 _ _ l0_7 a0_8 _ _ l0_9 a0_10 a0_11 _ _ l0_12 a0_13 t511 t512 t513 t514 t517 t518 t519 t520 t523 t524 t527 t528 t529 t532 _ ?side1 ?side2 ?side3 ?side4 ?side5 ?side6 ?side7 ?side8 A12.out).mono ?_
    (case side1 => exact C_up (Kd.C_below HR0_3.out HB.out))
    (case side2 => exact HC0_3.out)
    (case side3 => exact C_up (Kd.C_below HR0_7.out HB.out))
    (case side4 => exact HC0_7.out)
    (case side5 => exact C_up (Kd.C_below HR0_9.out HB.out))
    (case side6 => exact HC0_9.out)
    (case side7 => exact C_up (Kd.C_below HR0_12.out HB.out))
    (case side8 => exact HC0_12.out)
    rintro e w36 ⟨v515, v521, v525, v530, rfl, ho0, ho1, ho2, ho3, hb⟩
    refine ⟨_, rfl, ?_⟩
    have n4_ := Aside0.mk (Kd.R_elder' (R_up HO492.out) (Kd.R_base ho0) hb)
    have n5_ := Aside0.mk (Kd.R_elder' (R_up HO498.out) (Kd.R_base ho1) hb)
    have n6_ := Aside0.mk (Kd.R_elder' (R_up HO502.out) (Kd.R_base ho2) hb)
    have n7_ := Aside0.mk (Kd.S_mono (Kd.S_told (Kd.S_told (Kd.S_told (Kd.S_old (S_up HO507.out) hb) (Kd.R_base ho0)) (Kd.R_base ho2)) (Kd.S_base ho3)) (fun _ h_ => h_.1))
    have n8_ := Aside0.mk (Kd.R_lower (Kd.R_new' (Kd.R_new' ho0 (Kd.R_lt (R_up HO469.out))) (Kd.R_lt (R_up HO492.out))) (below_size hs_))
    have n9_ := Aside0.mk (Kd.R_lower (Kd.R_new' (Kd.R_new' ho1 (Kd.R_lt (R_up HO475.out))) (Kd.R_lt (R_up HO498.out))) (below_size hs_))
    have n10_ := Aside0.mk (Kd.R_lower (Kd.R_new' (Kd.R_new' ho2 (Kd.R_lt (R_up HO479.out))) (Kd.R_lt (R_up HO502.out))) (below_size hs_))
    have n11_ := Aside0.mk (Kd.S_lower (Kd.S_new' (Kd.S_new' (Kd.S_new' (Kd.S_new' (Kd.S_new' (Kd.S_new' ho3 (Kd.R_lt (R_up HO469.out))) (Kd.R_lt (R_up HO479.out))) (Kd.S_lt (S_up HO484.out))) (Kd.R_lt (R_up HO492.out))) (Kd.R_lt (R_up HO502.out))) (Kd.S_lt (S_up HO507.out))) (below_size hs_))
    have n12_ := Aside0.mk (blk_below (g := gb462) (blk_up BK462.out) hb)
    have n13_ := Aside0.mk (blk_below (g := gb509) (blk_up BK509.out) hb)
    have n14_ := Aside0.mk (below_step hs_ hb)
    clear HO469
    clear HO475
    clear HO479
    clear HO484
    clear HO492
    clear HO498
    clear HO502
    clear HO507
    clear BK462
    clear BK509
    clear HB
    have HO492 := n4_
    have HO498 := n5_
    have HO502 := n6_
    have HO507 := n7_
    have HO516 := n8_
    have HO522 := n9_
    have HO526 := n10_
    have HO531 := n11_
    have BK462 := n12_
    have BK509 := n13_
    have HB := n14_
    clear n4_ n5_ n6_ n7_ n8_ n9_ n10_ n11_ n12_ n13_ n14_
    (try clear hb)
    (try clear hb2)
    (try clear hk)
    (try clear hi)
    (try clear ho0)
    (try clear ho1)
    (try clear ho2)
    (try clear ho3)
    obtain ⟨Ao37, co37, eo37⟩ := Kd.R_slice HO516.out
    (first | subst eo37 | (injection eo37 with f1_ f2_ f3_; have f4_ := f1_.symm; have f5_ := f3_.symm; clear f1_ f2_ f3_; subst f4_; subst f5_))
    obtain ⟨Ao38, co38, eo38⟩ := Kd.R_slice HO522.out
    (first | subst eo38 | (injection eo38 with f1_ f2_ f3_; have f4_ := f1_.symm; have f5_ := f3_.symm; clear f1_ f2_ f3_; subst f4_; subst f5_))
    obtain ⟨Ao39, co39, eo39⟩ := Kd.R_slice HO526.out
    (first | subst eo39 | (injection eo39 with f1_ f2_ f3_; have f4_ := f1_.symm; have f5_ := f3_.symm; clear f1_ f2_ f3_; subst f4_; subst f5_))
    obtain ⟨Ao40, co40, eo40⟩ := Kd.S_slice HO531.out
    (first | subst eo40 | (injection eo40 with f1_ f2_ f3_; have f4_ := f1_.symm; have f5_ := f3_.symm; clear f1_ f2_ f3_; subst f4_; subst f5_))
    refine hK.out _ _ ⟨(blk_cell BK509.out 0).trans rfl, (blk_cell BK509.out 1).trans rfl, (blk_cell BK509.out 2).trans rfl, (blk_cell BK509.out 3).trans rfl, (blk_cell BK509.out 4).trans rfl, (blk_cell BK509.out 5).trans rfl, (blk_cell BK509.out 6).trans rfl, (blk_cell BK509.out 7).trans rfl, (blk_cell BK509.out 8).trans rfl, (blk_cell BK509.out 9).trans rfl, (blk_cell BK509.out 10).trans rfl, (blk_cell BK509.out 11).trans rfl, (blk_cell BK509.out 12).trans rfl, (blk_cell BK509.out 13).trans rfl, (blk_cell BK462.out 0).trans rfl, (blk_cell BK462.out 1).trans rfl, (blk_cell BK462.out 2).trans rfl, (blk_cell BK462.out 3).trans rfl, (blk_cell BK462.out 4).trans rfl, (blk_cell BK462.out 5).trans rfl, (blk_cell BK462.out 6).trans rfl, (blk_cell BK462.out 7).trans rfl, (blk_cell BK462.out 8).trans rfl, (blk_cell BK462.out 9).trans rfl, (blk_cell BK462.out 10).trans rfl, (blk_cell BK462.out 11).trans rfl, (blk_cell BK462.out 12).trans rfl, (blk_cell BK462.out 13).trans rfl⟩ (fun hHeld => ?_)
    clear hK K
    refine norm_ (a' := ?_) ?_ ?_
    rotate_left
    · show Act.put _ (some 24) _ = _
      simp only [Act.put, List.setIfInBounds_toArray, List.set_cons_zero, List.set_cons_succ, i64_w, i32_w]
      rfl
    refine on_ (i := 3) (N := some 25) rfl rfl (by kernel_rfl) (by decide) (fun K hK => ?_)
    refine goes_ Try.func10 (by kernel_rfl) rfl #[.agg #[.string t487, .int .i64 t488, .string t489, .slice Ao30 t490.length co30, .int .i64 t493, .int .i64 t494, .int .i64 t495, .slice Ao31 t496.length co31, .int .i64 t499, .slice Ao32 t500.length co32, .int .i64 t503, .bool t504, .slice Ao33 t505.length co33, .int .i64 t508], .agg #[.string t511, .int .i64 t512, .string t513, .slice Ao37 t514.length co37, .int .i64 t517, .int .i64 t518, .int .i64 t519, .slice Ao38 t520.length co38, .int .i64 t523, .slice Ao39 t524.length co39, .int .i64 t527, .bool t528, .slice Ao40 t529.length co40, .int .i64 t532]] (by rfl) rfl rfl (by (try simp only [List.map_toArray, List.map_cons, List.map_nil]); first | done | rfl | (simp only [List.length_drop, List.length_take]; rfl)) ?_
    with_reducible refine (laws_eqCmd.calls k t487 t488 t489 _ _ t490 t493 t494 t495 _ _ t496 t499 _ _ t500 t503 t504 _ _ t505 t508 t511 t512 t513 _ _ t514 t517 t518 t519 _ _ t520 t523 _ _ t524 t527 t528 _ _ t529 t532 true _ ?side1 ?side2 ?side3 ?side4 ?side5 ?side6 ?side7 ?side8 ?side9 ?side10 ?side11 ?side12 ?side13 ?side14 ?side15 ?side16 A13.out).mono ?_
    (case side1 => exact C_up (Kd.R_reads' HO492.out).2.2)
    (case side2 => exact (Kd.R_reads' HO492.out).2.1)
    (case side3 => exact C_up (Kd.R_reads' HO498.out).2.2)
    (case side4 => exact (Kd.R_reads' HO498.out).2.1)
    (case side5 => exact C_up (Kd.R_reads' HO502.out).2.2)
    (case side6 => exact (Kd.R_reads' HO502.out).2.1)
    (case side7 => exact C_up (Kd.S_reads' HO507.out).2.2)
    (case side8 => exact (Kd.S_reads' HO507.out).2.1)
    (case side9 => exact C_up (Kd.R_reads' HO516.out).2.2)
    (case side10 => exact (Kd.R_reads' HO516.out).2.1)
    (case side11 => exact C_up (Kd.R_reads' HO522.out).2.2)
    (case side12 => exact (Kd.R_reads' HO522.out).2.1)
    (case side13 => exact C_up (Kd.R_reads' HO526.out).2.2)
    (case side14 => exact (Kd.R_reads' HO526.out).2.1)
    (case side15 => exact C_up (Kd.S_reads' HO531.out).2.2)
    (case side16 => exact (Kd.S_reads' HO531.out).2.1)
    rintro e w41 ⟨rfl, hb⟩
    refine ⟨_, rfl, ?_⟩
    have n12_ := Aside0.mk (blk_below (g := gb462) (blk_up BK462.out) hb)
    have n13_ := Aside0.mk (blk_below (g := gb509) (blk_up BK509.out) hb)
    have n14_ := Aside0.mk (below_step hs_ hb)
    clear HO492
    clear HO498
    clear HO502
    clear HO507
    clear HO516
    clear HO522
    clear HO526
    clear HO531
    clear BK462
    clear BK509
    clear HB
    have BK462 := n12_
    have BK509 := n13_
    have HB := n14_
    clear n12_ n13_ n14_
    (try clear hb)
    (try clear hb2)
    (try clear hk)
    (try clear hi)
    refine hK.out _ _ ⟨(blk_cell BK509.out 0).trans rfl, (blk_cell BK509.out 1).trans rfl, (blk_cell BK509.out 2).trans rfl, (blk_cell BK509.out 3).trans rfl, (blk_cell BK509.out 4).trans rfl, (blk_cell BK509.out 5).trans rfl, (blk_cell BK509.out 6).trans rfl, (blk_cell BK509.out 7).trans rfl, (blk_cell BK509.out 8).trans rfl, (blk_cell BK509.out 9).trans rfl, (blk_cell BK509.out 10).trans rfl, (blk_cell BK509.out 11).trans rfl, (blk_cell BK509.out 12).trans rfl, (blk_cell BK509.out 13).trans rfl, (blk_cell BK462.out 0).trans rfl, (blk_cell BK462.out 1).trans rfl, (blk_cell BK462.out 2).trans rfl, (blk_cell BK462.out 3).trans rfl, (blk_cell BK462.out 4).trans rfl, (blk_cell BK462.out 5).trans rfl, (blk_cell BK462.out 6).trans rfl, (blk_cell BK462.out 7).trans rfl, (blk_cell BK462.out 8).trans rfl, (blk_cell BK462.out 9).trans rfl, (blk_cell BK462.out 10).trans rfl, (blk_cell BK462.out 11).trans rfl, (blk_cell BK462.out 12).trans rfl, (blk_cell BK462.out 13).trans rfl⟩ (fun hHeld => ?_)
    clear hK K
    refine norm_ (a' := ?_) ?_ ?_
    rotate_left
    · show Act.put _ (some 25) _ = _
      simp only [Act.put, List.setIfInBounds_toArray, List.set_cons_zero, List.set_cons_succ, i64_w, i32_w]
      rfl
    refine pu_ (i := 4) (N := some 26) (v := ?_) (a' := ?_) rfl rfl (by kernel_rfl) (fun _ _ _ h => h) (Or.inl ⟨by rfl, ?_⟩) ?_ ?_; rotate_left
    · intro w'; go_simp; all_goals (first | with_reducible rfl | (simp [Instr.field, go_sem]; rfl))
    rotate_left
    · simp only [Act.put, List.setIfInBounds_toArray, List.set_cons_zero, List.set_cons_succ, i64_w, i32_w]; rfl
    refine done_ (by kernel_rfl) ?_
    try go_wp2
    go_ret
    exact ⟨ve_, hs_⟩
   · replace c14 := Bool.eq_false_iff.mpr c14
     subst c14
     (try rw [if_neg (show ¬ (false = true) by decide)] at H)
     exact absurd H (by simp)
  · rw [if_neg c11] at H
    exact absurd H (by simp)

end Go.Proofs.Ytnehephjliankaa.PFnExactCmdFault

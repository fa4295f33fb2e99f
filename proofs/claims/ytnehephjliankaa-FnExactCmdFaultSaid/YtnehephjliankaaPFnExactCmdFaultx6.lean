/- Functions of the program as Lean functions, each with the proof that its call comes to what that function says (texts written by a program of this session). Conditions: those that stand in each theorem. -/
import Derived.Test.YtnehephjliankaaPFnExactCmdFaultx0
import Derived.Test.YtnehephjliankaaPFnExactCmdFaultx3
import Derived.Test.YtnehephjliankaaPFnExactCmdFaultx5
namespace Go.Proofs.Ytnehephjliankaa.PFnExactCmdFault
open Go.RowKit Go.Proofs.YtnehephjliankaaW.PrintWords Go.Proofs.YtnehephjliankaaW.PrintLast Go.Proofs.YtnehephjliankaaW.PrintMore
attribute [local go_sem] max2_int min2_int max_two min_two max_three min_three max_four min_four   -- for this text's walks alone
set_option linter.unusedVariables false
set_option linter.unusedSimpArgs false

/-! ### spec_l12Behind: function 126 -/
def spec_l12Behind.f (k : Nat) (l0 : List (S104)) (a1 : Int) : Option (Bool) := if 0 ≤ a1 then (if a1 < (l0.length : Int) then (if ((rd_T104 l0 a1).f0) = 9 then (if a1 > 0 then (some (((rd_T104 l0 a1).f4) == (wrap64 (a1 - 1)))) else (some false)) else ((spec_l12Two.f ((rd_T104 l0 a1).f0)).bind fun t189 => (if t189 = true then (if a1 > 1 then (if ((rd_T104 l0 a1).f5) = (wrap64 (a1 - 1)) then ((spec_l12First.f k l0 (wrap64 (a1 - 1))).bind fun t191 => (if t191 > 0 then ((spec_l12First.f k l0 (wrap64 (a1 - 1))).bind fun t193 => (some (((rd_T104 l0 a1).f4) == (wrap64 (t193 - 1))))) else (some false))) else (some false)) else (some false)) else (some true)))) else (none)) else (none)
def spec_l12Behind.T6 : Bool × List (List Nat × List Nat) := (true, [([], []), ([0], [0]), ([1], [1]), ([2], [2]), ([3, 2], [2, 3]), ([4, 2], [2, 4]), ([5, 2], [2, 5]), ([2], [2]), ([7, 2], [2, 7]), ([6, 8, 2], [2, 6, 8]), ([2, 9], [2, 9]), ([10, 2], [10]), ([11], [11]), ([11], [11]), ([13, 11], [11, 13]), ([12, 14, 11, 11], [11, 12, 14]), ([15, 11], [11, 15]), ([11, 16], [11, 16]), ([17, 15], [17]), ([18], [18]), ([19, 18], [18, 19]), ([20, 18], [18, 20]), ([21, 18], [18, 21]), ([18], [18]), ([18], [18]), ([24, 18], [18, 24]), ([23, 25, 18, 18], [18, 23, 25]), ([26, 18], [18, 26]), ([22, 27, 18], [18, 22, 27]), ([18, 28], [18, 28]), ([29, 26, 0, 1, 2, 3, 4, 5, 6, 7, 8, 9, 10, 11, 12, 13, 14, 15, 16, 17, 18, 19, 20, 21, 22, 23, 24, 25, 26, 27, 28, 29], [29])])
def spec_l12Behind.B6 : List Nat := [0, 1, 3, 7, 15, 31, 63, 7, 135, 511, 1023, 2047, 4095, 4095, 12287, 32767, 65535, 131071, 262143, 524287, 1048575, 2097151, 4194303, 524287, 524287, 17301503, 59244543, 126353407, 268435455, 536870911, 1073741823]
theorem spec_l12Behind.tab6 : rtab .any (opsOf Try.f126 6) = spec_l12Behind.T6 := by kernel_rfl
theorem spec_l12Behind.bits6 : waitsOk spec_l12Behind.T6.2 spec_l12Behind.B6 = true := by kernel_rfl
set_option maxHeartbeats 8000000 in
set_option maxRecDepth 100000 in
theorem spec_l12Behind.calls (k : Nat) (A0 : Option Addr) (c0 : Nat) (l0 : List (S104)) (a1 : Int) (r : Bool) (w : World) (hr0 : Kd.C k104 w A0 l0.length l0) (hc0 : l0.length ≤ c0) (h : spec_l12Behind.f k l0 a1 = some r) :
 Calls Try.prog 126 #[.slice A0 l0.length c0, .int .i64 a1] w fun e w' => e = .returned (.bool r) ∧ Below w.heap.size w w' := by
 have HR0 := Aside0.mk hr0
 have HC0 := Aside0.mk hc0
 clear hr0 hc0
 have HB := Aside0.mk (Below.refl w.heap.size w)
 have H : (if 0 ≤ a1 then (if a1 < (l0.length : Int) then (if ((rd_T104 l0 a1).f0) = 9 then (if a1 > 0 then (some (((rd_T104 l0 a1).f4) == (wrap64 (a1 - 1)))) else (some false)) else ((spec_l12Two.f ((rd_T104 l0 a1).f0)).bind fun t189 => (if t189 = true then (if a1 > 1 then (if ((rd_T104 l0 a1).f5) = (wrap64 (a1 - 1)) then ((spec_l12First.f k l0 (wrap64 (a1 - 1))).bind fun t191 => (if t191 > 0 then ((spec_l12First.f k l0 (wrap64 (a1 - 1))).bind fun t193 => (some (((rd_T104 l0 a1).f4) == (wrap64 (t193 - 1))))) else (some false))) else (some false)) else (some false)) else (some true)))) else (none)) else (none)) = some r := h
 clear h
 by_cases c3 : 0 ≤ a1
 ·
  rw [if_pos c3] at H
  have c3b0 : decide (0 ≤ a1) = true := decide_eq_true c3
  clear c3
  by_cases c4 : a1 < (l0.length : Int)
  case neg => rw [if_neg c4] at H; exact absurd H (by simp)
  rw [if_pos c4] at H
  have c4b0 : decide (a1 < (l0.length : Int)) = true := decide_eq_true c4
  clear c4
  have p188 : 0 ≤ (a1 : Int) := od_
  have q188 : a1 < (l0.length : Int) := od_
  obtain ⟨ad188, A188_2, c188_2, A188_3, c188_3, e188, hx188_0, hx188_1, hx188_2, hx188_3, hx188_4, hx188_5, hl188_2, hi188_2, hl188_3, hi188_3⟩ := at_T104 HR0.out a1 p188 q188
  cases e188
  have HR188_2 := Aside0.mk hi188_2
  have HC188_2 := Aside0.mk hl188_2
  clear hi188_2 hl188_2
  have HR188_3 := Aside0.mk hi188_3
  have HC188_3 := Aside0.mk hl188_3
  clear hi188_3 hl188_3
  replace p188 := eq_true p188
  replace q188 := eq_true q188
  by_cases c5 : ((rd_T104 l0 a1).f0) = 9
  ·
   rw [if_pos c5] at H
   have c5b0 : (((rd_T104 l0 a1).f0) == 9) = true := beq_iff_eq.mpr c5
   have c5b1 : (((rd_T104 l0 a1).f0) != 9) = false := bne_eq_false_iff_eq.mpr c5
   clear c5
   by_cases c6 : a1 > 0
   ·
    rw [if_pos c6] at H
    have c6b0 : decide (0 < a1) = true := decide_eq_true c6
    clear c6
    obtain rfl := Option.some.inj H
    go_enter Try.func126, Try.ntmps126
    go_wp2
    go_ret
    exact ⟨ve_, hb_⟩
   ·
    rw [if_neg c6] at H
    have c6b0 : decide (0 < a1) = false := decide_eq_false c6
    clear c6
    obtain rfl := Option.some.inj H
    go_enter Try.func126, Try.ntmps126
    go_wp2
    go_ret
    exact ⟨ve_, hb_⟩
  ·
   rw [if_neg c5] at H
   have c5b0 : (((rd_T104 l0 a1).f0) == 9) = false := beq_eq_false_iff_ne.mpr c5
   have c5b1 : (((rd_T104 l0 a1).f0) != 9) = true := bne_iff_ne.mpr c5
   replace H := Option.bind_eq_some_iff.mp H
   obtain ⟨t189, A70, H⟩ := H
   (try dsimp only at H)
   have A7 := Aside0.mk A70
   clear A70
   by_cases c8 : t189 = true
   ·
    subst c8
    (try rw [if_pos rfl] at H)
    by_cases c9 : a1 > 1
    ·
     rw [if_pos c9] at H
     have c9b0 : decide (1 < a1) = true := decide_eq_true c9
     clear c9
     by_cases c10 : ((rd_T104 l0 a1).f5) = (wrap64 (a1 - 1))
     ·
      rw [if_pos c10] at H
      have c10b0 : (((rd_T104 l0 a1).f5) == (wrap64 (a1 - 1))) = true := beq_iff_eq.mpr c10
      have c10b1 : (((rd_T104 l0 a1).f5) != (wrap64 (a1 - 1))) = false := bne_eq_false_iff_eq.mpr c10
      clear c10
      replace H := Option.bind_eq_some_iff.mp H
      obtain ⟨t191, A110, H⟩ := H
      (try dsimp only at H)
      have A11 := Aside0.mk A110
      clear A110
      by_cases c12 : t191 > 0
      ·
       rw [if_pos c12] at H
       have c12b0 : decide (0 < t191) = true := decide_eq_true c12
       clear c12
       replace H := Option.bind_eq_some_iff.mp H
       obtain ⟨t193, A130, H⟩ := H
       (try dsimp only at H)
       have A13 := Aside0.mk A130
       clear A130
       obtain rfl := Option.some.inj H
       go_enter Try.func126, Try.ntmps126
       try go_wp2_with (first | ((with_reducible refine gate_callee (f := 144) rfl ?_); refine goesY_ (some 29) Try.func144 #[.int .i64 ((rd_T104 l0 a1).f0)] rfl ?_; (with_reducible refine (spec_l12Two.calls ((rd_T104 l0 a1).f0) true _ A7.out).mono ?_); rintro e w' ⟨rfl, ⟨nd, rfl⟩⟩; refine ⟨_, rfl, ?_⟩))
       (try rw [World.drewN_drewN])
       (try rw [World.drewN_drewN])
       (try rw [World.drewN_drewN])
       generalize hq_ : World.drewN w _ = w14
       have n0_ : Aside0 (Below w.heap.size w w14) := ⟨by rw [← hq_]; exact pw_below_drewN (Below.refl _ _) _⟩
       clear HB hq_
       have HB := n0_
       clear n0_
       replace HB := Aside0.mk (below_drew1 HB.out)
       have p190 : 0 ≤ (a1 : Int) := od_
       have q190 : a1 < (l0.length : Int) := od_
       obtain ⟨ad190, A190_2, c190_2, A190_3, c190_3, e190, hx190_0, hx190_1, hx190_2, hx190_3, hx190_4, hx190_5, hl190_2, hi190_2, hl190_3, hi190_3⟩ := at_T104 HR0.out a1 p190 q190
       have hw190_5 := hx190_5
       have hw190_4 := hx190_4
       have hw190_3 := hx190_3
       have hw190_2 := hx190_2
       have hw190_1 := hx190_1
       have hw190_0 := hx190_0
       obtain rfl : ad188 = ad190 := (by injection e190)
       replace hx190_0 := ck_ HB.out hx190_0
       replace hx190_1 := ck_ HB.out hx190_1
       replace hx190_2 := ck_ HB.out hx190_2
       replace hx190_3 := ck_ HB.out hx190_3
       replace hx190_4 := ck_ HB.out hx190_4
       replace hx190_5 := ck_ HB.out hx190_5
       have HR190_2 := Aside0.mk hi190_2
       have HC190_2 := Aside0.mk hl190_2
       clear hi190_2 hl190_2
       have HR190_3 := Aside0.mk hi190_3
       have HC190_3 := Aside0.mk hl190_3
       clear hi190_3 hl190_3
       replace p190 := eq_true p190
       replace q190 := eq_true q190
       have p192 : 0 ≤ (a1 : Int) := od_
       have q192 : a1 < (l0.length : Int) := od_
       obtain ⟨ad192, A192_2, c192_2, A192_3, c192_3, e192, hx192_0, hx192_1, hx192_2, hx192_3, hx192_4, hx192_5, hl192_2, hi192_2, hl192_3, hi192_3⟩ := at_T104 HR0.out a1 p192 q192
       have hw192_5 := hx192_5
       have hw192_4 := hx192_4
       have hw192_3 := hx192_3
       have hw192_2 := hx192_2
       have hw192_1 := hx192_1
       have hw192_0 := hx192_0
       obtain rfl : ad188 = ad192 := (by injection e192)
       replace hx192_0 := ck_ HB.out hx192_0
       replace hx192_1 := ck_ HB.out hx192_1
       replace hx192_2 := ck_ HB.out hx192_2
       replace hx192_3 := ck_ HB.out hx192_3
       replace hx192_4 := ck_ HB.out hx192_4
       replace hx192_5 := ck_ HB.out hx192_5
       have HR192_2 := Aside0.mk hi192_2
       have HC192_2 := Aside0.mk hl192_2
       clear hi192_2 hl192_2
       have HR192_3 := Aside0.mk hi192_3
       have HC192_3 := Aside0.mk hl192_3
       clear hi192_3 hl192_3
       replace p192 := eq_true p192
       replace q192 := eq_true q192
       refine start_ (n := 31) (S := fun w' => w'.cell? (ad188.add ((a1).toNat * 6)) = some (.int .i64 ((rd_T104 l0 a1).f0)) ∧ w'.cell? ⟨(ad188.add ((a1).toNat * 6)).block, (ad188.add ((a1).toNat * 6)).off + 1, none⟩ = some (.int .i64 ((rd_T104 l0 a1).f1)) ∧ w'.cell? ⟨(ad188.add ((a1).toNat * 6)).block, (ad188.add ((a1).toNat * 6)).off + 2, none⟩ = some (.slice A190_2 ((rd_T104 l0 a1).f2).length c190_2) ∧ w'.cell? ⟨(ad188.add ((a1).toNat * 6)).block, (ad188.add ((a1).toNat * 6)).off + 3, none⟩ = some (.slice A190_3 ((rd_T104 l0 a1).f3).length c190_3) ∧ w'.cell? ⟨(ad188.add ((a1).toNat * 6)).block, (ad188.add ((a1).toNat * 6)).off + 4, none⟩ = some (.int .i64 ((rd_T104 l0 a1).f4)) ∧ w'.cell? ⟨(ad188.add ((a1).toNat * 6)).block, (ad188.add ((a1).toNat * 6)).off + 5, none⟩ = some (.int .i64 ((rd_T104 l0 a1).f5)) ∧ w'.cell? (ad188.add ((a1).toNat * 6)) = some (.int .i64 ((rd_T104 l0 a1).f0)) ∧ w'.cell? ⟨(ad188.add ((a1).toNat * 6)).block, (ad188.add ((a1).toNat * 6)).off + 1, none⟩ = some (.int .i64 ((rd_T104 l0 a1).f1)) ∧ w'.cell? ⟨(ad188.add ((a1).toNat * 6)).block, (ad188.add ((a1).toNat * 6)).off + 2, none⟩ = some (.slice A192_2 ((rd_T104 l0 a1).f2).length c192_2) ∧ w'.cell? ⟨(ad188.add ((a1).toNat * 6)).block, (ad188.add ((a1).toNat * 6)).off + 3, none⟩ = some (.slice A192_3 ((rd_T104 l0 a1).f3).length c192_3) ∧ w'.cell? ⟨(ad188.add ((a1).toNat * 6)).block, (ad188.add ((a1).toNat * 6)).off + 4, none⟩ = some (.int .i64 ((rd_T104 l0 a1).f4)) ∧ w'.cell? ⟨(ad188.add ((a1).toNat * 6)).block, (ad188.add ((a1).toNat * 6)).off + 5, none⟩ = some (.int .i64 ((rd_T104 l0 a1).f5))) (ds := []) #[false, false, false, false, false, false, false, false, false, false, false, false, false, false, false, false, false, false, false, false, false, false, false, false, false, false, false, false, false, false, false] (by kernel_rfl) rfl rfl ⟨(ck_ HB.out hw190_0), (ck_ HB.out hw190_1), (ck_ HB.out hw190_2), (ck_ HB.out hw190_3), (ck_ HB.out hw190_4), (ck_ HB.out hw190_5), (ck_ HB.out hw192_0), (ck_ HB.out hw192_1), (ck_ HB.out hw192_2), (ck_ HB.out hw192_3), (ck_ HB.out hw192_4), (ck_ HB.out hw192_5)⟩ (fun hHeld => ?_); refine with_tabW spec_l12Behind.tab6 spec_l12Behind.bits6 (fun HT_ HW_ => ?_)
       generalize w14.drew = w15 at HB HR190_2 HR190_3 HR192_2 HR192_3 hx190_0 hx190_1 hx190_2 hx190_3 hx190_4 hx190_5 hx192_0 hx192_1 hx192_2 hx192_3 hx192_4 hx192_5 hHeld ⊢
       refine pu_ (i := 0) (N := some 31) (v := ?_) (a' := ?_) rfl rfl (any_of HT_.out (by kernel_rfl)) (fun _ _ _ h => h) (Or.inl ⟨by rfl, ?_⟩) ?_ ?_; rotate_left
       · intro w'; go_simp; all_goals (first | with_reducible rfl | (simp [Instr.field, go_sem]; rfl))
       rotate_left
       · simp only [Act.put, List.setIfInBounds_toArray, List.set_cons_zero, List.set_cons_succ, i64_w, i32_w]; rfl
       refine pu_ (i := 1) (N := some 32) (v := ?_) (a' := ?_) rfl rfl (any_of HT_.out (by kernel_rfl)) (fun _ _ _ h => h) (Or.inl ⟨by rfl, ?_⟩) ?_ ?_; rotate_left
       · intro w'; go_simp; all_goals (first | with_reducible rfl | (simp [Instr.field, go_sem]; rfl))
       rotate_left
       · simp only [Act.put, List.setIfInBounds_toArray, List.set_cons_zero, List.set_cons_succ, i64_w, i32_w]; rfl
       refine pu_ (i := 2) (N := some 33) (v := ?_) (a' := ?_) rfl rfl (any_of HT_.out (by kernel_rfl)) (fun _ _ _ h => h) (Or.inl ⟨by rfl, ?_⟩) ?_ ?_; rotate_left
       · intro w'; go_simp; all_goals (first | with_reducible rfl | (simp [Instr.field, go_sem]; rfl))
       rotate_left
       · simp only [Act.put, List.setIfInBounds_toArray, List.set_cons_zero, List.set_cons_succ, i64_w, i32_w]; rfl
       refine pu_ (i := 3) (N := some 34) (v := ?_) (a' := ?_) rfl rfl (any_of HT_.out (by kernel_rfl)) (fun _ _ _ h => h) (Or.inl ⟨by rfl, ?_⟩) ?_ ?_; rotate_left
       · intro w'; go_simp; all_goals (first | with_reducible rfl | (simp [Instr.field, go_sem]; rfl))
       rotate_left
       · simp only [Act.put, List.setIfInBounds_toArray, List.set_cons_zero, List.set_cons_succ, i64_w, i32_w]; rfl
       refine pu_ (i := 4) (N := some 35) (v := ?_) (a' := ?_) rfl rfl (any_of HT_.out (by kernel_rfl)) (fun _ _ _ h => h) (Or.inl ⟨by rfl, ?_⟩) ?_ ?_; rotate_left
       · intro w'; go_simp; all_goals (first | with_reducible rfl | (simp [Instr.field, go_sem]; rfl))
       rotate_left
       · simp only [Act.put, List.setIfInBounds_toArray, List.set_cons_zero, List.set_cons_succ, i64_w, i32_w]; rfl
       refine pu_ (i := 5) (N := some 36) (v := ?_) (a' := ?_) rfl rfl (any_of HT_.out (by kernel_rfl)) (fun _ _ _ h => h) (Or.inl ⟨by rfl, ?_⟩) ?_ ?_; rotate_left
       · intro w'; go_simp; all_goals (first | with_reducible rfl | (simp [Instr.field, go_sem]; rfl))
       rotate_left
       · simp only [Act.put, List.setIfInBounds_toArray, List.set_cons_zero, List.set_cons_succ, i64_w, i32_w]; rfl
       refine pu_ (i := 7) (N := some 38) (v := ?_) (a' := ?_) rfl rfl (any_of HT_.out (by kernel_rfl)) (fun _ _ _ h => h) (Or.inl ⟨by rfl, ?_⟩) ?_ ?_; rotate_left
       · intro w'; go_simp; all_goals (first | with_reducible rfl | (simp [Instr.field, go_sem]; rfl))
       rotate_left
       · simp only [Act.put, List.setIfInBounds_toArray, List.set_cons_zero, List.set_cons_succ, i64_w, i32_w]; rfl
       refine pu_ (i := 8) (N := some 39) (v := ?_) (a' := ?_) rfl rfl (any_of HT_.out (by kernel_rfl)) (fun _ _ _ h => h) (Or.inl ⟨by rfl, ?_⟩) ?_ ?_; rotate_left
       · intro w'; go_simp; all_goals (first | with_reducible rfl | (simp [Instr.field, go_sem]; rfl))
       rotate_left
       · simp only [Act.put, List.setIfInBounds_toArray, List.set_cons_zero, List.set_cons_succ, i64_w, i32_w]; rfl
       refine ta_ (i := 6) (N := some 37) (v := ?_) (a' := ?_) rfl rfl (take_ofW HT_.out HW_.out (by kernel_rfl)) (fun _ _ _ h => h) (Or.inl ⟨by rfl, ?_⟩) hHeld ?_ ?_; rotate_left
       · rintro w' ⟨s0, s1, s2, s3, s4, s5, s6, s7, s8, s9, s10, s11⟩; go_simp; all_goals (first | with_reducible rfl | (simp [Instr.field, go_sem]; rfl))
       rotate_left
       · simp only [Act.put, List.setIfInBounds_toArray, List.set_cons_zero, List.set_cons_succ, i64_w, i32_w]; rfl
       refine pu_ (i := 9) (N := some 40) (v := ?_) (a' := ?_) rfl rfl (any_of HT_.out (by kernel_rfl)) (fun _ _ _ h => h) (Or.inl ⟨by rfl, ?_⟩) ?_ ?_; rotate_left
       · intro w'; go_simp; all_goals (first | with_reducible rfl | (simp [Instr.field, go_sem]; rfl))
       rotate_left
       · simp only [Act.put, List.setIfInBounds_toArray, List.set_cons_zero, List.set_cons_succ, i64_w, i32_w]; rfl
       refine pu_ (i := 10) (N := some 41) (v := ?_) (a' := ?_) rfl rfl (any_of HT_.out (by kernel_rfl)) (fun _ _ _ h => h) (Or.inl ⟨by rfl, ?_⟩) ?_ ?_; rotate_left
       · intro w'; go_simp; all_goals (first | with_reducible rfl | (simp [Instr.field, go_sem]; rfl))
       rotate_left
       · simp only [Act.put, List.setIfInBounds_toArray, List.set_cons_zero, List.set_cons_succ, i64_w, i32_w]; rfl
       refine pu_ (i := 11) (N := some 42) (v := ?_) (a' := ?_) rfl rfl (any_of HT_.out (by kernel_rfl)) (fun _ _ _ h => h) (Or.inl ⟨by rfl, ?_⟩) ?_ ?_; rotate_left
       · intro w'; go_simp; all_goals (first | with_reducible rfl | (simp [Instr.field, go_sem]; rfl))
       rotate_left
       · simp only [Act.put, List.setIfInBounds_toArray, List.set_cons_zero, List.set_cons_succ, i64_w, i32_w]; rfl
       refine pu_ (i := 12) (N := some 43) (v := ?_) (a' := ?_) rfl rfl (any_of HT_.out (by kernel_rfl)) (fun _ _ _ h => h) (Or.inl ⟨by rfl, ?_⟩) ?_ ?_; rotate_left
       · intro w'; go_simp; all_goals (first | with_reducible rfl | (simp [Instr.field, go_sem]; rfl))
       rotate_left
       · simp only [Act.put, List.setIfInBounds_toArray, List.set_cons_zero, List.set_cons_succ, i64_w, i32_w]; rfl
       refine pu_ (i := 13) (N := some 44) (v := ?_) (a' := ?_) rfl rfl (any_of HT_.out (by kernel_rfl)) (fun _ _ _ h => h) (Or.inl ⟨by rfl, ?_⟩) ?_ ?_; rotate_left
       · intro w'; go_simp; all_goals (first | with_reducible rfl | (simp [Instr.field, go_sem]; rfl))
       rotate_left
       · simp only [Act.put, List.setIfInBounds_toArray, List.set_cons_zero, List.set_cons_succ, i64_w, i32_w]; rfl
       refine pu_ (i := 14) (N := some 45) (v := ?_) (a' := ?_) rfl rfl (any_of HT_.out (by kernel_rfl)) (fun _ _ _ h => h) (Or.inl ⟨by rfl, ?_⟩) ?_ ?_; rotate_left
       · intro w'; go_simp; all_goals (first | with_reducible rfl | (simp [Instr.field, go_sem]; rfl))
       rotate_left
       · simp only [Act.put, List.setIfInBounds_toArray, List.set_cons_zero, List.set_cons_succ, i64_w, i32_w]; rfl
       refine on_ (i := 15) (N := some 46) rfl rfl (one_of HT_.out (by kernel_rfl)) (by decide) (fun K hK => ?_)
       refine goes_ Try.func127 (by kernel_rfl) rfl #[.slice (some ad188) l0.length c0, .int .i64 (wrap64 (a1 - 1))] (by rfl) rfl rfl (by (try simp only [List.map_toArray, List.map_cons, List.map_nil]); first | done | rfl | (simp only [List.length_drop, List.length_take]; rfl)) ?_
       with_reducible refine (spec_l12First.calls k _ _ l0 (wrap64 (a1 - 1)) t191 _ ?side1 ?side2 A11.out).mono ?_
       (case side1 => exact C_up (Kd.C_below HR0.out HB.out))
       (case side2 => exact HC0.out)
       rintro e w16 ⟨rfl, hb⟩
       refine ⟨_, rfl, ?_⟩
       replace HB := Aside0.mk (below_step (HB_up HB.out) hb)
       (try clear hb)
       refine hK.out _ _ ⟨(ck_ HB.out hw190_0), (ck_ HB.out hw190_1), (ck_ HB.out hw190_2), (ck_ HB.out hw190_3), (ck_ HB.out hw190_4), (ck_ HB.out hw190_5), (ck_ HB.out hw192_0), (ck_ HB.out hw192_1), (ck_ HB.out hw192_2), (ck_ HB.out hw192_3), (ck_ HB.out hw192_4), (ck_ HB.out hw192_5)⟩ (fun hHeld => ?_)
       clear hK K
       refine norm_ (a' := ?_) ?_ ?_
       rotate_left
       · show Act.put _ (some 46) _ = _
         simp only [Act.put, List.setIfInBounds_toArray, List.set_cons_zero, List.set_cons_succ, i64_w, i32_w]
         rfl
       refine pu_ (i := 16) (N := some 47) (v := ?_) (a' := ?_) rfl rfl (any_of HT_.out (by kernel_rfl)) (fun _ _ _ h => h) (Or.inl ⟨by rfl, ?_⟩) ?_ ?_; rotate_left
       · intro w'; go_simp; all_goals (first | with_reducible rfl | (simp [Instr.field, go_sem]; rfl))
       rotate_left
       · simp only [Act.put, List.setIfInBounds_toArray, List.set_cons_zero, List.set_cons_succ, i64_w, i32_w]; rfl
       refine pu_ (i := 17) (N := some 48) (v := ?_) (a' := ?_) rfl rfl (any_of HT_.out (by kernel_rfl)) (fun _ _ _ h => h) (Or.inl ⟨by rfl, ?_⟩) ?_ ?_; rotate_left
       · intro w'; go_simp; all_goals (first | with_reducible rfl | (simp [Instr.field, go_sem]; rfl))
       rotate_left
       · simp only [Act.put, List.setIfInBounds_toArray, List.set_cons_zero, List.set_cons_succ, i64_w, i32_w]; rfl
       refine pu_ (i := 18) (N := some 49) (v := ?_) (a' := ?_) rfl rfl (any_of HT_.out (by kernel_rfl)) (fun _ _ _ h => h) (Or.inl ⟨by rfl, ?_⟩) ?_ ?_; rotate_left
       · intro w'; go_simp; all_goals (first | with_reducible rfl | (simp [Instr.field, go_sem]; rfl))
       rotate_left
       · simp only [Act.put, List.setIfInBounds_toArray, List.set_cons_zero, List.set_cons_succ, i64_w, i32_w]; rfl
       refine pu_ (i := 19) (N := some 50) (v := ?_) (a' := ?_) rfl rfl (any_of HT_.out (by kernel_rfl)) (fun _ _ _ h => h) (Or.inl ⟨by rfl, ?_⟩) ?_ ?_; rotate_left
       · intro w'; go_simp; all_goals (first | with_reducible rfl | (simp [Instr.field, go_sem]; rfl))
       rotate_left
       · simp only [Act.put, List.setIfInBounds_toArray, List.set_cons_zero, List.set_cons_succ, i64_w, i32_w]; rfl
       refine pu_ (i := 20) (N := some 51) (v := ?_) (a' := ?_) rfl rfl (any_of HT_.out (by kernel_rfl)) (fun _ _ _ h => h) (Or.inl ⟨by rfl, ?_⟩) ?_ ?_; rotate_left
       · intro w'; go_simp; all_goals (first | with_reducible rfl | (simp [Instr.field, go_sem]; rfl))
       rotate_left
       · simp only [Act.put, List.setIfInBounds_toArray, List.set_cons_zero, List.set_cons_succ, i64_w, i32_w]; rfl
       refine pu_ (i := 21) (N := some 52) (v := ?_) (a' := ?_) rfl rfl (any_of HT_.out (by kernel_rfl)) (fun _ _ _ h => h) (Or.inl ⟨by rfl, ?_⟩) ?_ ?_; rotate_left
       · intro w'; go_simp; all_goals (first | with_reducible rfl | (simp [Instr.field, go_sem]; rfl))
       rotate_left
       · simp only [Act.put, List.setIfInBounds_toArray, List.set_cons_zero, List.set_cons_succ, i64_w, i32_w]; rfl
       refine pu_ (i := 23) (N := some 54) (v := ?_) (a' := ?_) rfl rfl (any_of HT_.out (by kernel_rfl)) (fun _ _ _ h => h) (Or.inl ⟨by rfl, ?_⟩) ?_ ?_; rotate_left
       · intro w'; go_simp; all_goals (first | with_reducible rfl | (simp [Instr.field, go_sem]; rfl))
       rotate_left
       · simp only [Act.put, List.setIfInBounds_toArray, List.set_cons_zero, List.set_cons_succ, i64_w, i32_w]; rfl
       refine pu_ (i := 24) (N := some 55) (v := ?_) (a' := ?_) rfl rfl (any_of HT_.out (by kernel_rfl)) (fun _ _ _ h => h) (Or.inl ⟨by rfl, ?_⟩) ?_ ?_; rotate_left
       · intro w'; go_simp; all_goals (first | with_reducible rfl | (simp [Instr.field, go_sem]; rfl))
       rotate_left
       · simp only [Act.put, List.setIfInBounds_toArray, List.set_cons_zero, List.set_cons_succ, i64_w, i32_w]; rfl
       refine pu_ (i := 25) (N := some 56) (v := ?_) (a' := ?_) rfl rfl (any_of HT_.out (by kernel_rfl)) (fun _ _ _ h => h) (Or.inl ⟨by rfl, ?_⟩) ?_ ?_; rotate_left
       · intro w'; go_simp; all_goals (first | with_reducible rfl | (simp [Instr.field, go_sem]; rfl))
       rotate_left
       · simp only [Act.put, List.setIfInBounds_toArray, List.set_cons_zero, List.set_cons_succ, i64_w, i32_w]; rfl
       refine ta_ (i := 22) (N := some 53) (v := ?_) (a' := ?_) rfl rfl (take_ofW HT_.out HW_.out (by kernel_rfl)) (fun _ _ _ h => h) (Or.inl ⟨by rfl, ?_⟩) hHeld ?_ ?_; rotate_left
       · rintro w' ⟨s0, s1, s2, s3, s4, s5, s6, s7, s8, s9, s10, s11⟩; go_simp; all_goals (first | with_reducible rfl | (simp [Instr.field, go_sem]; rfl))
       rotate_left
       · simp only [Act.put, List.setIfInBounds_toArray, List.set_cons_zero, List.set_cons_succ, i64_w, i32_w]; rfl
       refine on_ (i := 26) (N := some 57) rfl rfl (one_of HT_.out (by kernel_rfl)) (by decide) (fun K hK => ?_)
       refine goes_ Try.func127 (by kernel_rfl) rfl #[.slice (some ad188) l0.length c0, .int .i64 (wrap64 (a1 - 1))] (by rfl) rfl rfl (by (try simp only [List.map_toArray, List.map_cons, List.map_nil]); first | done | rfl | (simp only [List.length_drop, List.length_take]; rfl)) ?_
       with_reducible refine (spec_l12First.calls k _ _ l0 (wrap64 (a1 - 1)) t193 _ ?side1 ?side2 A13.out).mono ?_
       (case side1 => exact C_up (Kd.C_below HR0.out HB.out))
       (case side2 => exact HC0.out)
       rintro e w17 ⟨rfl, hb⟩
       refine ⟨_, rfl, ?_⟩
       replace HB := Aside0.mk (below_step (HB_up HB.out) hb)
       (try clear hb)
       refine hK.out _ _ ⟨(ck_ HB.out hw190_0), (ck_ HB.out hw190_1), (ck_ HB.out hw190_2), (ck_ HB.out hw190_3), (ck_ HB.out hw190_4), (ck_ HB.out hw190_5), (ck_ HB.out hw192_0), (ck_ HB.out hw192_1), (ck_ HB.out hw192_2), (ck_ HB.out hw192_3), (ck_ HB.out hw192_4), (ck_ HB.out hw192_5)⟩ (fun hHeld => ?_)
       clear hK K
       refine norm_ (a' := ?_) ?_ ?_
       rotate_left
       · show Act.put _ (some 57) _ = _
         simp only [Act.put, List.setIfInBounds_toArray, List.set_cons_zero, List.set_cons_succ, i64_w, i32_w]
         rfl
       refine pu_ (i := 27) (N := some 58) (v := ?_) (a' := ?_) rfl rfl (any_of HT_.out (by kernel_rfl)) (fun _ _ _ h => h) (Or.inl ⟨by rfl, ?_⟩) ?_ ?_; rotate_left
       · intro w'; go_simp; all_goals (first | with_reducible rfl | (simp [Instr.field, go_sem]; rfl))
       rotate_left
       · simp only [Act.put, List.setIfInBounds_toArray, List.set_cons_zero, List.set_cons_succ, i64_w, i32_w]; rfl
       refine pu_ (i := 28) (N := some 59) (v := ?_) (a' := ?_) rfl rfl (any_of HT_.out (by kernel_rfl)) (fun _ _ _ h => h) (Or.inl ⟨by rfl, ?_⟩) ?_ ?_; rotate_left
       · intro w'; go_simp; all_goals (first | with_reducible rfl | (simp [Instr.field, go_sem]; rfl))
       rotate_left
       · simp only [Act.put, List.setIfInBounds_toArray, List.set_cons_zero, List.set_cons_succ, i64_w, i32_w]; rfl
       refine pu_ (i := 29) (N := some 60) (v := ?_) (a' := ?_) rfl rfl (any_of HT_.out (by kernel_rfl)) (fun _ _ _ h => h) (Or.inl ⟨by rfl, ?_⟩) ?_ ?_; rotate_left
       · intro w'; go_simp; all_goals (first | with_reducible rfl | (simp [Instr.field, go_sem]; rfl))
       rotate_left
       · simp only [Act.put, List.setIfInBounds_toArray, List.set_cons_zero, List.set_cons_succ, i64_w, i32_w]; rfl
       refine pu_ (i := 30) (N := some 4) (v := ?_) (a' := ?_) rfl rfl (any_of HT_.out (by kernel_rfl)) (fun _ _ _ h => h) (Or.inl ⟨by rfl, ?_⟩) ?_ ?_; rotate_left
       · intro w'; go_simp; all_goals (first | with_reducible rfl | (simp [Instr.field, go_sem]; rfl))
       rotate_left
       · simp only [Act.put, List.setIfInBounds_toArray, List.set_cons_zero, List.set_cons_succ, i64_w, i32_w]; rfl
       refine done_ (done_of HT_.out (by kernel_rfl)) ?_
       try go_wp2
       go_ret
       exact ⟨ve_, hb_⟩
      ·
       rw [if_neg c12] at H
       have c12b0 : decide (0 < t191) = false := decide_eq_false c12
       clear c12
       obtain rfl := Option.some.inj H
       go_enter Try.func126, Try.ntmps126
       try go_wp2_with (first | ((with_reducible refine gate_callee (f := 144) rfl ?_); refine goesY_ (some 29) Try.func144 #[.int .i64 ((rd_T104 l0 a1).f0)] rfl ?_; (with_reducible refine (spec_l12Two.calls ((rd_T104 l0 a1).f0) true _ A7.out).mono ?_); rintro e w' ⟨rfl, ⟨nd, rfl⟩⟩; refine ⟨_, rfl, ?_⟩))
       (try rw [World.drewN_drewN])
       (try rw [World.drewN_drewN])
       (try rw [World.drewN_drewN])
       generalize hq_ : World.drewN w _ = w18
       have n0_ : Aside0 (Below w.heap.size w w18) := ⟨by rw [← hq_]; exact pw_below_drewN (Below.refl _ _) _⟩
       clear HB hq_
       have HB := n0_
       clear n0_
       replace HB := Aside0.mk (below_drew1 HB.out)
       have p190 : 0 ≤ (a1 : Int) := od_
       have q190 : a1 < (l0.length : Int) := od_
       obtain ⟨ad190, A190_2, c190_2, A190_3, c190_3, e190, hx190_0, hx190_1, hx190_2, hx190_3, hx190_4, hx190_5, hl190_2, hi190_2, hl190_3, hi190_3⟩ := at_T104 HR0.out a1 p190 q190
       have hw190_5 := hx190_5
       have hw190_4 := hx190_4
       have hw190_3 := hx190_3
       have hw190_2 := hx190_2
       have hw190_1 := hx190_1
       have hw190_0 := hx190_0
       obtain rfl : ad188 = ad190 := (by injection e190)
       replace hx190_0 := ck_ HB.out hx190_0
       replace hx190_1 := ck_ HB.out hx190_1
       replace hx190_2 := ck_ HB.out hx190_2
       replace hx190_3 := ck_ HB.out hx190_3
       replace hx190_4 := ck_ HB.out hx190_4
       replace hx190_5 := ck_ HB.out hx190_5
       have HR190_2 := Aside0.mk hi190_2
       have HC190_2 := Aside0.mk hl190_2
       clear hi190_2 hl190_2
       have HR190_3 := Aside0.mk hi190_3
       have HC190_3 := Aside0.mk hl190_3
       clear hi190_3 hl190_3
       replace p190 := eq_true p190
       replace q190 := eq_true q190
       refine start_ (n := 31) (S := fun w' => w'.cell? (ad188.add ((a1).toNat * 6)) = some (.int .i64 ((rd_T104 l0 a1).f0)) ∧ w'.cell? ⟨(ad188.add ((a1).toNat * 6)).block, (ad188.add ((a1).toNat * 6)).off + 1, none⟩ = some (.int .i64 ((rd_T104 l0 a1).f1)) ∧ w'.cell? ⟨(ad188.add ((a1).toNat * 6)).block, (ad188.add ((a1).toNat * 6)).off + 2, none⟩ = some (.slice A190_2 ((rd_T104 l0 a1).f2).length c190_2) ∧ w'.cell? ⟨(ad188.add ((a1).toNat * 6)).block, (ad188.add ((a1).toNat * 6)).off + 3, none⟩ = some (.slice A190_3 ((rd_T104 l0 a1).f3).length c190_3) ∧ w'.cell? ⟨(ad188.add ((a1).toNat * 6)).block, (ad188.add ((a1).toNat * 6)).off + 4, none⟩ = some (.int .i64 ((rd_T104 l0 a1).f4)) ∧ w'.cell? ⟨(ad188.add ((a1).toNat * 6)).block, (ad188.add ((a1).toNat * 6)).off + 5, none⟩ = some (.int .i64 ((rd_T104 l0 a1).f5))) (ds := []) #[false, false, false, false, false, false, false, false, false, false, false, false, false, false, false, false, false, false, false, false, false, false, false, false, false, false, false, false, false, false, false] (by kernel_rfl) rfl rfl ⟨(ck_ HB.out hw190_0), (ck_ HB.out hw190_1), (ck_ HB.out hw190_2), (ck_ HB.out hw190_3), (ck_ HB.out hw190_4), (ck_ HB.out hw190_5)⟩ (fun hHeld => ?_); refine with_tabW spec_l12Behind.tab6 spec_l12Behind.bits6 (fun HT_ HW_ => ?_)
       generalize w18.drew = w19 at HB HR190_2 HR190_3 hx190_0 hx190_1 hx190_2 hx190_3 hx190_4 hx190_5 hHeld ⊢
       refine pu_ (i := 0) (N := some 31) (v := ?_) (a' := ?_) rfl rfl (any_of HT_.out (by kernel_rfl)) (fun _ _ _ h => h) (Or.inl ⟨by rfl, ?_⟩) ?_ ?_; rotate_left
       · intro w'; go_simp; all_goals (first | with_reducible rfl | (simp [Instr.field, go_sem]; rfl))
       rotate_left
       · simp only [Act.put, List.setIfInBounds_toArray, List.set_cons_zero, List.set_cons_succ, i64_w, i32_w]; rfl
       refine pu_ (i := 1) (N := some 32) (v := ?_) (a' := ?_) rfl rfl (any_of HT_.out (by kernel_rfl)) (fun _ _ _ h => h) (Or.inl ⟨by rfl, ?_⟩) ?_ ?_; rotate_left
       · intro w'; go_simp; all_goals (first | with_reducible rfl | (simp [Instr.field, go_sem]; rfl))
       rotate_left
       · simp only [Act.put, List.setIfInBounds_toArray, List.set_cons_zero, List.set_cons_succ, i64_w, i32_w]; rfl
       refine pu_ (i := 2) (N := some 33) (v := ?_) (a' := ?_) rfl rfl (any_of HT_.out (by kernel_rfl)) (fun _ _ _ h => h) (Or.inl ⟨by rfl, ?_⟩) ?_ ?_; rotate_left
       · intro w'; go_simp; all_goals (first | with_reducible rfl | (simp [Instr.field, go_sem]; rfl))
       rotate_left
       · simp only [Act.put, List.setIfInBounds_toArray, List.set_cons_zero, List.set_cons_succ, i64_w, i32_w]; rfl
       refine pu_ (i := 3) (N := some 34) (v := ?_) (a' := ?_) rfl rfl (any_of HT_.out (by kernel_rfl)) (fun _ _ _ h => h) (Or.inl ⟨by rfl, ?_⟩) ?_ ?_; rotate_left
       · intro w'; go_simp; all_goals (first | with_reducible rfl | (simp [Instr.field, go_sem]; rfl))
       rotate_left
       · simp only [Act.put, List.setIfInBounds_toArray, List.set_cons_zero, List.set_cons_succ, i64_w, i32_w]; rfl
       refine pu_ (i := 4) (N := some 35) (v := ?_) (a' := ?_) rfl rfl (any_of HT_.out (by kernel_rfl)) (fun _ _ _ h => h) (Or.inl ⟨by rfl, ?_⟩) ?_ ?_; rotate_left
       · intro w'; go_simp; all_goals (first | with_reducible rfl | (simp [Instr.field, go_sem]; rfl))
       rotate_left
       · simp only [Act.put, List.setIfInBounds_toArray, List.set_cons_zero, List.set_cons_succ, i64_w, i32_w]; rfl
       refine pu_ (i := 5) (N := some 36) (v := ?_) (a' := ?_) rfl rfl (any_of HT_.out (by kernel_rfl)) (fun _ _ _ h => h) (Or.inl ⟨by rfl, ?_⟩) ?_ ?_; rotate_left
       · intro w'; go_simp; all_goals (first | with_reducible rfl | (simp [Instr.field, go_sem]; rfl))
       rotate_left
       · simp only [Act.put, List.setIfInBounds_toArray, List.set_cons_zero, List.set_cons_succ, i64_w, i32_w]; rfl
       refine pu_ (i := 7) (N := some 38) (v := ?_) (a' := ?_) rfl rfl (any_of HT_.out (by kernel_rfl)) (fun _ _ _ h => h) (Or.inl ⟨by rfl, ?_⟩) ?_ ?_; rotate_left
       · intro w'; go_simp; all_goals (first | with_reducible rfl | (simp [Instr.field, go_sem]; rfl))
       rotate_left
       · simp only [Act.put, List.setIfInBounds_toArray, List.set_cons_zero, List.set_cons_succ, i64_w, i32_w]; rfl
       refine pu_ (i := 8) (N := some 39) (v := ?_) (a' := ?_) rfl rfl (any_of HT_.out (by kernel_rfl)) (fun _ _ _ h => h) (Or.inl ⟨by rfl, ?_⟩) ?_ ?_; rotate_left
       · intro w'; go_simp; all_goals (first | with_reducible rfl | (simp [Instr.field, go_sem]; rfl))
       rotate_left
       · simp only [Act.put, List.setIfInBounds_toArray, List.set_cons_zero, List.set_cons_succ, i64_w, i32_w]; rfl
       refine ta_ (i := 6) (N := some 37) (v := ?_) (a' := ?_) rfl rfl (take_ofW HT_.out HW_.out (by kernel_rfl)) (fun _ _ _ h => h) (Or.inl ⟨by rfl, ?_⟩) hHeld ?_ ?_; rotate_left
       · rintro w' ⟨s0, s1, s2, s3, s4, s5⟩; go_simp; all_goals (first | with_reducible rfl | (simp [Instr.field, go_sem]; rfl))
       rotate_left
       · simp only [Act.put, List.setIfInBounds_toArray, List.set_cons_zero, List.set_cons_succ, i64_w, i32_w]; rfl
       refine pu_ (i := 9) (N := some 40) (v := ?_) (a' := ?_) rfl rfl (any_of HT_.out (by kernel_rfl)) (fun _ _ _ h => h) (Or.inl ⟨by rfl, ?_⟩) ?_ ?_; rotate_left
       · intro w'; go_simp; all_goals (first | with_reducible rfl | (simp [Instr.field, go_sem]; rfl))
       rotate_left
       · simp only [Act.put, List.setIfInBounds_toArray, List.set_cons_zero, List.set_cons_succ, i64_w, i32_w]; rfl
       refine pu_ (i := 10) (N := some 41) (v := ?_) (a' := ?_) rfl rfl (any_of HT_.out (by kernel_rfl)) (fun _ _ _ h => h) (Or.inl ⟨by rfl, ?_⟩) ?_ ?_; rotate_left
       · intro w'; go_simp; all_goals (first | with_reducible rfl | (simp [Instr.field, go_sem]; rfl))
       rotate_left
       · simp only [Act.put, List.setIfInBounds_toArray, List.set_cons_zero, List.set_cons_succ, i64_w, i32_w]; rfl
       refine pu_ (i := 11) (N := some 42) (v := ?_) (a' := ?_) rfl rfl (any_of HT_.out (by kernel_rfl)) (fun _ _ _ h => h) (Or.inl ⟨by rfl, ?_⟩) ?_ ?_; rotate_left
       · intro w'; go_simp; all_goals (first | with_reducible rfl | (simp [Instr.field, go_sem]; rfl))
       rotate_left
       · simp only [Act.put, List.setIfInBounds_toArray, List.set_cons_zero, List.set_cons_succ, i64_w, i32_w]; rfl
       refine pu_ (i := 12) (N := some 43) (v := ?_) (a' := ?_) rfl rfl (any_of HT_.out (by kernel_rfl)) (fun _ _ _ h => h) (Or.inl ⟨by rfl, ?_⟩) ?_ ?_; rotate_left
       · intro w'; go_simp; all_goals (first | with_reducible rfl | (simp [Instr.field, go_sem]; rfl))
       rotate_left
       · simp only [Act.put, List.setIfInBounds_toArray, List.set_cons_zero, List.set_cons_succ, i64_w, i32_w]; rfl
       refine pu_ (i := 13) (N := some 44) (v := ?_) (a' := ?_) rfl rfl (any_of HT_.out (by kernel_rfl)) (fun _ _ _ h => h) (Or.inl ⟨by rfl, ?_⟩) ?_ ?_; rotate_left
       · intro w'; go_simp; all_goals (first | with_reducible rfl | (simp [Instr.field, go_sem]; rfl))
       rotate_left
       · simp only [Act.put, List.setIfInBounds_toArray, List.set_cons_zero, List.set_cons_succ, i64_w, i32_w]; rfl
       refine pu_ (i := 14) (N := some 45) (v := ?_) (a' := ?_) rfl rfl (any_of HT_.out (by kernel_rfl)) (fun _ _ _ h => h) (Or.inl ⟨by rfl, ?_⟩) ?_ ?_; rotate_left
       · intro w'; go_simp; all_goals (first | with_reducible rfl | (simp [Instr.field, go_sem]; rfl))
       rotate_left
       · simp only [Act.put, List.setIfInBounds_toArray, List.set_cons_zero, List.set_cons_succ, i64_w, i32_w]; rfl
       refine on_ (i := 15) (N := some 46) rfl rfl (one_of HT_.out (by kernel_rfl)) (by decide) (fun K hK => ?_)
       refine goes_ Try.func127 (by kernel_rfl) rfl #[.slice (some ad188) l0.length c0, .int .i64 (wrap64 (a1 - 1))] (by rfl) rfl rfl (by (try simp only [List.map_toArray, List.map_cons, List.map_nil]); first | done | rfl | (simp only [List.length_drop, List.length_take]; rfl)) ?_
       with_reducible refine (spec_l12First.calls k _ _ l0 (wrap64 (a1 - 1)) t191 _ ?side1 ?side2 A11.out).mono ?_
       (case side1 => exact C_up (Kd.C_below HR0.out HB.out))
       (case side2 => exact HC0.out)
       rintro e w20 ⟨rfl, hb⟩
       refine ⟨_, rfl, ?_⟩
       replace HB := Aside0.mk (below_step (HB_up HB.out) hb)
       (try clear hb)
       refine hK.out _ _ ⟨(ck_ HB.out hw190_0), (ck_ HB.out hw190_1), (ck_ HB.out hw190_2), (ck_ HB.out hw190_3), (ck_ HB.out hw190_4), (ck_ HB.out hw190_5)⟩ (fun hHeld => ?_)
       clear hK K
       refine norm_ (a' := ?_) ?_ ?_
       rotate_left
       · show Act.put _ (some 46) _ = _
         simp only [Act.put, List.setIfInBounds_toArray, List.set_cons_zero, List.set_cons_succ, i64_w, i32_w]
         rfl
       refine pu_ (i := 16) (N := some 47) (v := ?_) (a' := ?_) rfl rfl (any_of HT_.out (by kernel_rfl)) (fun _ _ _ h => h) (Or.inl ⟨by rfl, ?_⟩) ?_ ?_; rotate_left
       · intro w'; go_simp; all_goals (first | with_reducible rfl | (simp [Instr.field, go_sem]; rfl))
       rotate_left
       · simp only [Act.put, List.setIfInBounds_toArray, List.set_cons_zero, List.set_cons_succ, i64_w, i32_w]; rfl
       refine pu_ (i := 17) (N := some 48) (v := ?_) (a' := ?_) rfl rfl (any_of HT_.out (by kernel_rfl)) (fun _ _ _ h => h) (Or.inl ⟨by rfl, ?_⟩) ?_ ?_; rotate_left
       · intro w'; go_simp; all_goals (first | with_reducible rfl | (simp [Instr.field, go_sem]; rfl))
       rotate_left
       · simp only [Act.put, List.setIfInBounds_toArray, List.set_cons_zero, List.set_cons_succ, i64_w, i32_w]; rfl
       refine pu_ (i := 18) (N := some 49) (v := ?_) (a' := ?_) rfl rfl (any_of HT_.out (by kernel_rfl)) (fun _ _ _ h => h) (Or.inl ⟨by rfl, ?_⟩) ?_ ?_; rotate_left
       · intro w'; go_simp; all_goals (first | with_reducible rfl | (simp [Instr.field, go_sem]; rfl))
       rotate_left
       · simp only [Act.put, List.setIfInBounds_toArray, List.set_cons_zero, List.set_cons_succ, i64_w, i32_w]; rfl
       refine pu_ (i := 19) (N := some 50) (v := undef) (a' := ?_) rfl rfl (any_of HT_.out (by kernel_rfl)) (fun _ _ _ h => h) (Or.inr ⟨by rfl, rfl⟩) ?_ ?_; rotate_left
       · simp only [Act.put, List.setIfInBounds_toArray, List.set_cons_zero, List.set_cons_succ, i64_w, i32_w]; rfl
       refine pu_ (i := 20) (N := some 51) (v := undef) (a' := ?_) rfl rfl (any_of HT_.out (by kernel_rfl)) (fun _ _ _ h => h) (Or.inr ⟨by rfl, rfl⟩) ?_ ?_; rotate_left
       · simp only [Act.put, List.setIfInBounds_toArray, List.set_cons_zero, List.set_cons_succ, i64_w, i32_w]; rfl
       refine pu_ (i := 21) (N := some 52) (v := undef) (a' := ?_) rfl rfl (any_of HT_.out (by kernel_rfl)) (fun _ _ _ h => h) (Or.inr ⟨by rfl, rfl⟩) ?_ ?_; rotate_left
       · simp only [Act.put, List.setIfInBounds_toArray, List.set_cons_zero, List.set_cons_succ, i64_w, i32_w]; rfl
       refine pu_ (i := 22) (N := some 53) (v := undef) (a' := ?_) rfl rfl (any_of HT_.out (by kernel_rfl)) (fun _ _ _ h => h) (Or.inr ⟨by rfl, rfl⟩) ?_ ?_; rotate_left
       · simp only [Act.put, List.setIfInBounds_toArray, List.set_cons_zero, List.set_cons_succ, i64_w, i32_w]; rfl
       refine pu_ (i := 23) (N := some 54) (v := undef) (a' := ?_) rfl rfl (any_of HT_.out (by kernel_rfl)) (fun _ _ _ h => h) (Or.inr ⟨by rfl, rfl⟩) ?_ ?_; rotate_left
       · simp only [Act.put, List.setIfInBounds_toArray, List.set_cons_zero, List.set_cons_succ, i64_w, i32_w]; rfl
       refine pu_ (i := 24) (N := some 55) (v := undef) (a' := ?_) rfl rfl (any_of HT_.out (by kernel_rfl)) (fun _ _ _ h => h) (Or.inr ⟨by rfl, rfl⟩) ?_ ?_; rotate_left
       · simp only [Act.put, List.setIfInBounds_toArray, List.set_cons_zero, List.set_cons_succ, i64_w, i32_w]; rfl
       refine pu_ (i := 25) (N := some 56) (v := undef) (a' := ?_) rfl rfl (any_of HT_.out (by kernel_rfl)) (fun _ _ _ h => h) (Or.inr ⟨by rfl, rfl⟩) ?_ ?_; rotate_left
       · simp only [Act.put, List.setIfInBounds_toArray, List.set_cons_zero, List.set_cons_succ, i64_w, i32_w]; rfl
       refine pu_ (i := 26) (N := some 57) (v := undef) (a' := ?_) rfl rfl (any_of HT_.out (by kernel_rfl)) (fun _ _ _ h => h) (Or.inr ⟨by rfl, rfl⟩) ?_ ?_; rotate_left
       · simp only [Act.put, List.setIfInBounds_toArray, List.set_cons_zero, List.set_cons_succ, i64_w, i32_w]; rfl
       refine pu_ (i := 27) (N := some 58) (v := undef) (a' := ?_) rfl rfl (any_of HT_.out (by kernel_rfl)) (fun _ _ _ h => h) (Or.inr ⟨by rfl, rfl⟩) ?_ ?_; rotate_left
       · simp only [Act.put, List.setIfInBounds_toArray, List.set_cons_zero, List.set_cons_succ, i64_w, i32_w]; rfl
       refine pu_ (i := 28) (N := some 59) (v := undef) (a' := ?_) rfl rfl (any_of HT_.out (by kernel_rfl)) (fun _ _ _ h => h) (Or.inr ⟨by rfl, rfl⟩) ?_ ?_; rotate_left
       · simp only [Act.put, List.setIfInBounds_toArray, List.set_cons_zero, List.set_cons_succ, i64_w, i32_w]; rfl
       refine pu_ (i := 29) (N := some 60) (v := ?_) (a' := ?_) rfl rfl (any_of HT_.out (by kernel_rfl)) (fun _ _ _ h => h) (Or.inl ⟨by rfl, ?_⟩) ?_ ?_; rotate_left
       · intro w'; go_simp; all_goals (first | with_reducible rfl | (simp [Instr.field, go_sem]; rfl))
       rotate_left
       · simp only [Act.put, List.setIfInBounds_toArray, List.set_cons_zero, List.set_cons_succ, i64_w, i32_w]; rfl
       refine pu_ (i := 30) (N := some 4) (v := ?_) (a' := ?_) rfl rfl (any_of HT_.out (by kernel_rfl)) (fun _ _ _ h => h) (Or.inl ⟨by rfl, ?_⟩) ?_ ?_; rotate_left
       · intro w'; go_simp; all_goals (first | with_reducible rfl | (simp [Instr.field, go_sem]; rfl))
       rotate_left
       · simp only [Act.put, List.setIfInBounds_toArray, List.set_cons_zero, List.set_cons_succ, i64_w, i32_w]; rfl
       refine done_ (done_of HT_.out (by kernel_rfl)) ?_
       try go_wp2
       go_ret
       exact ⟨ve_, hb_⟩
     ·
      rw [if_neg c10] at H
      have c10b0 : (((rd_T104 l0 a1).f5) == (wrap64 (a1 - 1))) = false := beq_eq_false_iff_ne.mpr c10
      have c10b1 : (((rd_T104 l0 a1).f5) != (wrap64 (a1 - 1))) = true := bne_iff_ne.mpr c10
      obtain rfl := Option.some.inj H
      go_enter Try.func126, Try.ntmps126
      try go_wp2_with (first | ((with_reducible refine gate_callee (f := 144) rfl ?_); refine goesY_ (some 29) Try.func144 #[.int .i64 ((rd_T104 l0 a1).f0)] rfl ?_; (with_reducible refine (spec_l12Two.calls ((rd_T104 l0 a1).f0) true _ A7.out).mono ?_); rintro e w' ⟨rfl, ⟨nd, rfl⟩⟩; refine ⟨_, rfl, ?_⟩))
      (try rw [World.drewN_drewN])
      (try rw [World.drewN_drewN])
      (try rw [World.drewN_drewN])
      generalize hq_ : World.drewN w _ = w21
      have n0_ : Aside0 (Below w.heap.size w w21) := ⟨by rw [← hq_]; exact pw_below_drewN (Below.refl _ _) _⟩
      clear HB hq_
      have HB := n0_
      clear n0_
      replace HB := Aside0.mk (below_drew1 HB.out)
      have p190 : 0 ≤ (a1 : Int) := od_
      have q190 : a1 < (l0.length : Int) := od_
      obtain ⟨ad190, A190_2, c190_2, A190_3, c190_3, e190, hx190_0, hx190_1, hx190_2, hx190_3, hx190_4, hx190_5, hl190_2, hi190_2, hl190_3, hi190_3⟩ := at_T104 HR0.out a1 p190 q190
      have hw190_5 := hx190_5
      have hw190_4 := hx190_4
      have hw190_3 := hx190_3
      have hw190_2 := hx190_2
      have hw190_1 := hx190_1
      have hw190_0 := hx190_0
      obtain rfl : ad188 = ad190 := (by injection e190)
      replace hx190_0 := ck_ HB.out hx190_0
      replace hx190_1 := ck_ HB.out hx190_1
      replace hx190_2 := ck_ HB.out hx190_2
      replace hx190_3 := ck_ HB.out hx190_3
      replace hx190_4 := ck_ HB.out hx190_4
      replace hx190_5 := ck_ HB.out hx190_5
      have HR190_2 := Aside0.mk hi190_2
      have HC190_2 := Aside0.mk hl190_2
      clear hi190_2 hl190_2
      have HR190_3 := Aside0.mk hi190_3
      have HC190_3 := Aside0.mk hl190_3
      clear hi190_3 hl190_3
      replace p190 := eq_true p190
      replace q190 := eq_true q190
      refine start_ (n := 31) (S := fun w' => w'.cell? (ad188.add ((a1).toNat * 6)) = some (.int .i64 ((rd_T104 l0 a1).f0)) ∧ w'.cell? ⟨(ad188.add ((a1).toNat * 6)).block, (ad188.add ((a1).toNat * 6)).off + 1, none⟩ = some (.int .i64 ((rd_T104 l0 a1).f1)) ∧ w'.cell? ⟨(ad188.add ((a1).toNat * 6)).block, (ad188.add ((a1).toNat * 6)).off + 2, none⟩ = some (.slice A190_2 ((rd_T104 l0 a1).f2).length c190_2) ∧ w'.cell? ⟨(ad188.add ((a1).toNat * 6)).block, (ad188.add ((a1).toNat * 6)).off + 3, none⟩ = some (.slice A190_3 ((rd_T104 l0 a1).f3).length c190_3) ∧ w'.cell? ⟨(ad188.add ((a1).toNat * 6)).block, (ad188.add ((a1).toNat * 6)).off + 4, none⟩ = some (.int .i64 ((rd_T104 l0 a1).f4)) ∧ w'.cell? ⟨(ad188.add ((a1).toNat * 6)).block, (ad188.add ((a1).toNat * 6)).off + 5, none⟩ = some (.int .i64 ((rd_T104 l0 a1).f5))) (ds := []) #[false, false, false, false, false, false, false, false, false, false, false, false, false, false, false, false, false, false, false, false, false, false, false, false, false, false, false, false, false, false, false] (by kernel_rfl) rfl rfl ⟨(ck_ HB.out hw190_0), (ck_ HB.out hw190_1), (ck_ HB.out hw190_2), (ck_ HB.out hw190_3), (ck_ HB.out hw190_4), (ck_ HB.out hw190_5)⟩ (fun hHeld => ?_); refine with_tabW spec_l12Behind.tab6 spec_l12Behind.bits6 (fun HT_ HW_ => ?_)
      generalize w21.drew = w22 at HB HR190_2 HR190_3 hx190_0 hx190_1 hx190_2 hx190_3 hx190_4 hx190_5 hHeld ⊢
      refine pu_ (i := 0) (N := some 31) (v := ?_) (a' := ?_) rfl rfl (any_of HT_.out (by kernel_rfl)) (fun _ _ _ h => h) (Or.inl ⟨by rfl, ?_⟩) ?_ ?_; rotate_left
      · intro w'; go_simp; all_goals (first | with_reducible rfl | (simp [Instr.field, go_sem]; rfl))
      rotate_left
      · simp only [Act.put, List.setIfInBounds_toArray, List.set_cons_zero, List.set_cons_succ, i64_w, i32_w]; rfl
      refine pu_ (i := 1) (N := some 32) (v := ?_) (a' := ?_) rfl rfl (any_of HT_.out (by kernel_rfl)) (fun _ _ _ h => h) (Or.inl ⟨by rfl, ?_⟩) ?_ ?_; rotate_left
      · intro w'; go_simp; all_goals (first | with_reducible rfl | (simp [Instr.field, go_sem]; rfl))
      rotate_left
      · simp only [Act.put, List.setIfInBounds_toArray, List.set_cons_zero, List.set_cons_succ, i64_w, i32_w]; rfl
      refine pu_ (i := 2) (N := some 33) (v := ?_) (a' := ?_) rfl rfl (any_of HT_.out (by kernel_rfl)) (fun _ _ _ h => h) (Or.inl ⟨by rfl, ?_⟩) ?_ ?_; rotate_left
      · intro w'; go_simp; all_goals (first | with_reducible rfl | (simp [Instr.field, go_sem]; rfl))
      rotate_left
      · simp only [Act.put, List.setIfInBounds_toArray, List.set_cons_zero, List.set_cons_succ, i64_w, i32_w]; rfl
      refine pu_ (i := 3) (N := some 34) (v := ?_) (a' := ?_) rfl rfl (any_of HT_.out (by kernel_rfl)) (fun _ _ _ h => h) (Or.inl ⟨by rfl, ?_⟩) ?_ ?_; rotate_left
      · intro w'; go_simp; all_goals (first | with_reducible rfl | (simp [Instr.field, go_sem]; rfl))
      rotate_left
      · simp only [Act.put, List.setIfInBounds_toArray, List.set_cons_zero, List.set_cons_succ, i64_w, i32_w]; rfl
      refine pu_ (i := 4) (N := some 35) (v := ?_) (a' := ?_) rfl rfl (any_of HT_.out (by kernel_rfl)) (fun _ _ _ h => h) (Or.inl ⟨by rfl, ?_⟩) ?_ ?_; rotate_left
      · intro w'; go_simp; all_goals (first | with_reducible rfl | (simp [Instr.field, go_sem]; rfl))
      rotate_left
      · simp only [Act.put, List.setIfInBounds_toArray, List.set_cons_zero, List.set_cons_succ, i64_w, i32_w]; rfl
      refine pu_ (i := 5) (N := some 36) (v := ?_) (a' := ?_) rfl rfl (any_of HT_.out (by kernel_rfl)) (fun _ _ _ h => h) (Or.inl ⟨by rfl, ?_⟩) ?_ ?_; rotate_left
      · intro w'; go_simp; all_goals (first | with_reducible rfl | (simp [Instr.field, go_sem]; rfl))
      rotate_left
      · simp only [Act.put, List.setIfInBounds_toArray, List.set_cons_zero, List.set_cons_succ, i64_w, i32_w]; rfl
      refine pu_ (i := 7) (N := some 38) (v := ?_) (a' := ?_) rfl rfl (any_of HT_.out (by kernel_rfl)) (fun _ _ _ h => h) (Or.inl ⟨by rfl, ?_⟩) ?_ ?_; rotate_left
      · intro w'; go_simp; all_goals (first | with_reducible rfl | (simp [Instr.field, go_sem]; rfl))
      rotate_left
      · simp only [Act.put, List.setIfInBounds_toArray, List.set_cons_zero, List.set_cons_succ, i64_w, i32_w]; rfl
      refine pu_ (i := 8) (N := some 39) (v := ?_) (a' := ?_) rfl rfl (any_of HT_.out (by kernel_rfl)) (fun _ _ _ h => h) (Or.inl ⟨by rfl, ?_⟩) ?_ ?_; rotate_left
      · intro w'; go_simp; all_goals (first | with_reducible rfl | (simp [Instr.field, go_sem]; rfl))
      rotate_left
      · simp only [Act.put, List.setIfInBounds_toArray, List.set_cons_zero, List.set_cons_succ, i64_w, i32_w]; rfl
      refine ta_ (i := 6) (N := some 37) (v := ?_) (a' := ?_) rfl rfl (take_ofW HT_.out HW_.out (by kernel_rfl)) (fun _ _ _ h => h) (Or.inl ⟨by rfl, ?_⟩) hHeld ?_ ?_; rotate_left
      · rintro w' ⟨s0, s1, s2, s3, s4, s5⟩; go_simp; all_goals (first | with_reducible rfl | (simp [Instr.field, go_sem]; rfl))
      rotate_left
      · simp only [Act.put, List.setIfInBounds_toArray, List.set_cons_zero, List.set_cons_succ, i64_w, i32_w]; rfl
      refine pu_ (i := 9) (N := some 40) (v := ?_) (a' := ?_) rfl rfl (any_of HT_.out (by kernel_rfl)) (fun _ _ _ h => h) (Or.inl ⟨by rfl, ?_⟩) ?_ ?_; rotate_left
      · intro w'; go_simp; all_goals (first | with_reducible rfl | (simp [Instr.field, go_sem]; rfl))
      rotate_left
      · simp only [Act.put, List.setIfInBounds_toArray, List.set_cons_zero, List.set_cons_succ, i64_w, i32_w]; rfl
      refine pu_ (i := 10) (N := some 41) (v := ?_) (a' := ?_) rfl rfl (any_of HT_.out (by kernel_rfl)) (fun _ _ _ h => h) (Or.inl ⟨by rfl, ?_⟩) ?_ ?_; rotate_left
      · intro w'; go_simp; all_goals (first | with_reducible rfl | (simp [Instr.field, go_sem]; rfl))
      rotate_left
      · simp only [Act.put, List.setIfInBounds_toArray, List.set_cons_zero, List.set_cons_succ, i64_w, i32_w]; rfl
      refine pu_ (i := 11) (N := some 42) (v := ?_) (a' := ?_) rfl rfl (any_of HT_.out (by kernel_rfl)) (fun _ _ _ h => h) (Or.inl ⟨by rfl, ?_⟩) ?_ ?_; rotate_left
      · intro w'; go_simp; all_goals (first | with_reducible rfl | (simp [Instr.field, go_sem]; rfl))
      rotate_left
      · simp only [Act.put, List.setIfInBounds_toArray, List.set_cons_zero, List.set_cons_succ, i64_w, i32_w]; rfl
      refine pu_ (i := 12) (N := some 43) (v := undef) (a' := ?_) rfl rfl (any_of HT_.out (by kernel_rfl)) (fun _ _ _ h => h) (Or.inr ⟨by rfl, rfl⟩) ?_ ?_; rotate_left
      · simp only [Act.put, List.setIfInBounds_toArray, List.set_cons_zero, List.set_cons_succ, i64_w, i32_w]; rfl
      refine pu_ (i := 13) (N := some 44) (v := undef) (a' := ?_) rfl rfl (any_of HT_.out (by kernel_rfl)) (fun _ _ _ h => h) (Or.inr ⟨by rfl, rfl⟩) ?_ ?_; rotate_left
      · simp only [Act.put, List.setIfInBounds_toArray, List.set_cons_zero, List.set_cons_succ, i64_w, i32_w]; rfl
      refine pu_ (i := 14) (N := some 45) (v := undef) (a' := ?_) rfl rfl (any_of HT_.out (by kernel_rfl)) (fun _ _ _ h => h) (Or.inr ⟨by rfl, rfl⟩) ?_ ?_; rotate_left
      · simp only [Act.put, List.setIfInBounds_toArray, List.set_cons_zero, List.set_cons_succ, i64_w, i32_w]; rfl
      refine pu_ (i := 15) (N := some 46) (v := undef) (a' := ?_) rfl rfl (any_of HT_.out (by kernel_rfl)) (fun _ _ _ h => h) (Or.inr ⟨by rfl, rfl⟩) ?_ ?_; rotate_left
      · simp only [Act.put, List.setIfInBounds_toArray, List.set_cons_zero, List.set_cons_succ, i64_w, i32_w]; rfl
      refine pu_ (i := 16) (N := some 47) (v := undef) (a' := ?_) rfl rfl (any_of HT_.out (by kernel_rfl)) (fun _ _ _ h => h) (Or.inr ⟨by rfl, rfl⟩) ?_ ?_; rotate_left
      · simp only [Act.put, List.setIfInBounds_toArray, List.set_cons_zero, List.set_cons_succ, i64_w, i32_w]; rfl
      refine pu_ (i := 17) (N := some 48) (v := ?_) (a' := ?_) rfl rfl (any_of HT_.out (by kernel_rfl)) (fun _ _ _ h => h) (Or.inl ⟨by rfl, ?_⟩) ?_ ?_; rotate_left
      · intro w'; go_simp; all_goals (first | with_reducible rfl | (simp [Instr.field, go_sem]; rfl))
      rotate_left
      · simp only [Act.put, List.setIfInBounds_toArray, List.set_cons_zero, List.set_cons_succ, i64_w, i32_w]; rfl
      refine pu_ (i := 18) (N := some 49) (v := ?_) (a' := ?_) rfl rfl (any_of HT_.out (by kernel_rfl)) (fun _ _ _ h => h) (Or.inl ⟨by rfl, ?_⟩) ?_ ?_; rotate_left
      · intro w'; go_simp; all_goals (first | with_reducible rfl | (simp [Instr.field, go_sem]; rfl))
      rotate_left
      · simp only [Act.put, List.setIfInBounds_toArray, List.set_cons_zero, List.set_cons_succ, i64_w, i32_w]; rfl
      refine pu_ (i := 19) (N := some 50) (v := undef) (a' := ?_) rfl rfl (any_of HT_.out (by kernel_rfl)) (fun _ _ _ h => h) (Or.inr ⟨by rfl, rfl⟩) ?_ ?_; rotate_left
      · simp only [Act.put, List.setIfInBounds_toArray, List.set_cons_zero, List.set_cons_succ, i64_w, i32_w]; rfl
      refine pu_ (i := 20) (N := some 51) (v := undef) (a' := ?_) rfl rfl (any_of HT_.out (by kernel_rfl)) (fun _ _ _ h => h) (Or.inr ⟨by rfl, rfl⟩) ?_ ?_; rotate_left
      · simp only [Act.put, List.setIfInBounds_toArray, List.set_cons_zero, List.set_cons_succ, i64_w, i32_w]; rfl
      refine pu_ (i := 21) (N := some 52) (v := undef) (a' := ?_) rfl rfl (any_of HT_.out (by kernel_rfl)) (fun _ _ _ h => h) (Or.inr ⟨by rfl, rfl⟩) ?_ ?_; rotate_left
      · simp only [Act.put, List.setIfInBounds_toArray, List.set_cons_zero, List.set_cons_succ, i64_w, i32_w]; rfl
      refine pu_ (i := 22) (N := some 53) (v := undef) (a' := ?_) rfl rfl (any_of HT_.out (by kernel_rfl)) (fun _ _ _ h => h) (Or.inr ⟨by rfl, rfl⟩) ?_ ?_; rotate_left
      · simp only [Act.put, List.setIfInBounds_toArray, List.set_cons_zero, List.set_cons_succ, i64_w, i32_w]; rfl
      refine pu_ (i := 23) (N := some 54) (v := undef) (a' := ?_) rfl rfl (any_of HT_.out (by kernel_rfl)) (fun _ _ _ h => h) (Or.inr ⟨by rfl, rfl⟩) ?_ ?_; rotate_left
      · simp only [Act.put, List.setIfInBounds_toArray, List.set_cons_zero, List.set_cons_succ, i64_w, i32_w]; rfl
      refine pu_ (i := 24) (N := some 55) (v := undef) (a' := ?_) rfl rfl (any_of HT_.out (by kernel_rfl)) (fun _ _ _ h => h) (Or.inr ⟨by rfl, rfl⟩) ?_ ?_; rotate_left
      · simp only [Act.put, List.setIfInBounds_toArray, List.set_cons_zero, List.set_cons_succ, i64_w, i32_w]; rfl
      refine pu_ (i := 25) (N := some 56) (v := undef) (a' := ?_) rfl rfl (any_of HT_.out (by kernel_rfl)) (fun _ _ _ h => h) (Or.inr ⟨by rfl, rfl⟩) ?_ ?_; rotate_left
      · simp only [Act.put, List.setIfInBounds_toArray, List.set_cons_zero, List.set_cons_succ, i64_w, i32_w]; rfl
      refine pu_ (i := 26) (N := some 57) (v := undef) (a' := ?_) rfl rfl (any_of HT_.out (by kernel_rfl)) (fun _ _ _ h => h) (Or.inr ⟨by rfl, rfl⟩) ?_ ?_; rotate_left
      · simp only [Act.put, List.setIfInBounds_toArray, List.set_cons_zero, List.set_cons_succ, i64_w, i32_w]; rfl
      refine pu_ (i := 27) (N := some 58) (v := undef) (a' := ?_) rfl rfl (any_of HT_.out (by kernel_rfl)) (fun _ _ _ h => h) (Or.inr ⟨by rfl, rfl⟩) ?_ ?_; rotate_left
      · simp only [Act.put, List.setIfInBounds_toArray, List.set_cons_zero, List.set_cons_succ, i64_w, i32_w]; rfl
      refine pu_ (i := 28) (N := some 59) (v := undef) (a' := ?_) rfl rfl (any_of HT_.out (by kernel_rfl)) (fun _ _ _ h => h) (Or.inr ⟨by rfl, rfl⟩) ?_ ?_; rotate_left
      · simp only [Act.put, List.setIfInBounds_toArray, List.set_cons_zero, List.set_cons_succ, i64_w, i32_w]; rfl
      refine pu_ (i := 29) (N := some 60) (v := ?_) (a' := ?_) rfl rfl (any_of HT_.out (by kernel_rfl)) (fun _ _ _ h => h) (Or.inl ⟨by rfl, ?_⟩) ?_ ?_; rotate_left
      · intro w'; go_simp; all_goals (first | with_reducible rfl | (simp [Instr.field, go_sem]; rfl))
      rotate_left
      · simp only [Act.put, List.setIfInBounds_toArray, List.set_cons_zero, List.set_cons_succ, i64_w, i32_w]; rfl
      refine pu_ (i := 30) (N := some 4) (v := ?_) (a' := ?_) rfl rfl (any_of HT_.out (by kernel_rfl)) (fun _ _ _ h => h) (Or.inl ⟨by rfl, ?_⟩) ?_ ?_; rotate_left
      · intro w'; go_simp; all_goals (first | with_reducible rfl | (simp [Instr.field, go_sem]; rfl))
      rotate_left
      · simp only [Act.put, List.setIfInBounds_toArray, List.set_cons_zero, List.set_cons_succ, i64_w, i32_w]; rfl
      refine done_ (done_of HT_.out (by kernel_rfl)) ?_
      try go_wp2
      go_ret
      exact ⟨ve_, hb_⟩
    ·
     rw [if_neg c9] at H
     have c9b0 : decide (1 < a1) = false := decide_eq_false c9
     clear c9
     obtain rfl := Option.some.inj H
     go_enter Try.func126, Try.ntmps126
     try go_wp2_with (first | ((with_reducible refine gate_callee (f := 144) rfl ?_); refine goesY_ (some 29) Try.func144 #[.int .i64 ((rd_T104 l0 a1).f0)] rfl ?_; (with_reducible refine (spec_l12Two.calls ((rd_T104 l0 a1).f0) true _ A7.out).mono ?_); rintro e w' ⟨rfl, ⟨nd, rfl⟩⟩; refine ⟨_, rfl, ?_⟩))
     (try rw [World.drewN_drewN])
     (try rw [World.drewN_drewN])
     (try rw [World.drewN_drewN])
     generalize hq_ : World.drewN w _ = w23
     have n0_ : Aside0 (Below w.heap.size w w23) := ⟨by rw [← hq_]; exact pw_below_drewN (Below.refl _ _) _⟩
     clear HB hq_
     have HB := n0_
     clear n0_
     replace HB := Aside0.mk (below_drew1 HB.out)
     refine start_ (n := 31) (S := fun w' => True) (ds := []) #[false, false, false, false, false, false, false, false, false, false, false, false, false, false, false, false, false, false, false, false, false, false, false, false, false, false, false, false, false, false, false] (by kernel_rfl) rfl rfl trivial (fun hHeld => ?_); refine with_tabW spec_l12Behind.tab6 spec_l12Behind.bits6 (fun HT_ HW_ => ?_)
     generalize w23.drew = w24 at HB hHeld ⊢
     refine pu_ (i := 0) (N := some 31) (v := ?_) (a' := ?_) rfl rfl (any_of HT_.out (by kernel_rfl)) (fun _ _ _ h => h) (Or.inl ⟨by rfl, ?_⟩) ?_ ?_; rotate_left
     · intro w'; go_simp; all_goals (first | with_reducible rfl | (simp [Instr.field, go_sem]; rfl))
     rotate_left
     · simp only [Act.put, List.setIfInBounds_toArray, List.set_cons_zero, List.set_cons_succ, i64_w, i32_w]; rfl
     refine pu_ (i := 1) (N := some 32) (v := ?_) (a' := ?_) rfl rfl (any_of HT_.out (by kernel_rfl)) (fun _ _ _ h => h) (Or.inl ⟨by rfl, ?_⟩) ?_ ?_; rotate_left
     · intro w'; go_simp; all_goals (first | with_reducible rfl | (simp [Instr.field, go_sem]; rfl))
     rotate_left
     · simp only [Act.put, List.setIfInBounds_toArray, List.set_cons_zero, List.set_cons_succ, i64_w, i32_w]; rfl
     refine pu_ (i := 2) (N := some 33) (v := ?_) (a' := ?_) rfl rfl (any_of HT_.out (by kernel_rfl)) (fun _ _ _ h => h) (Or.inl ⟨by rfl, ?_⟩) ?_ ?_; rotate_left
     · intro w'; go_simp; all_goals (first | with_reducible rfl | (simp [Instr.field, go_sem]; rfl))
     rotate_left
     · simp only [Act.put, List.setIfInBounds_toArray, List.set_cons_zero, List.set_cons_succ, i64_w, i32_w]; rfl
     refine pu_ (i := 3) (N := some 34) (v := undef) (a' := ?_) rfl rfl (any_of HT_.out (by kernel_rfl)) (fun _ _ _ h => h) (Or.inr ⟨by rfl, rfl⟩) ?_ ?_; rotate_left
     · simp only [Act.put, List.setIfInBounds_toArray, List.set_cons_zero, List.set_cons_succ, i64_w, i32_w]; rfl
     refine pu_ (i := 4) (N := some 35) (v := undef) (a' := ?_) rfl rfl (any_of HT_.out (by kernel_rfl)) (fun _ _ _ h => h) (Or.inr ⟨by rfl, rfl⟩) ?_ ?_; rotate_left
     · simp only [Act.put, List.setIfInBounds_toArray, List.set_cons_zero, List.set_cons_succ, i64_w, i32_w]; rfl
     refine pu_ (i := 5) (N := some 36) (v := undef) (a' := ?_) rfl rfl (any_of HT_.out (by kernel_rfl)) (fun _ _ _ h => h) (Or.inr ⟨by rfl, rfl⟩) ?_ ?_; rotate_left
     · simp only [Act.put, List.setIfInBounds_toArray, List.set_cons_zero, List.set_cons_succ, i64_w, i32_w]; rfl
     refine pu_ (i := 6) (N := some 37) (v := undef) (a' := ?_) rfl rfl (any_of HT_.out (by kernel_rfl)) (fun _ _ _ h => h) (Or.inr ⟨by rfl, rfl⟩) ?_ ?_; rotate_left
     · simp only [Act.put, List.setIfInBounds_toArray, List.set_cons_zero, List.set_cons_succ, i64_w, i32_w]; rfl
     refine pu_ (i := 7) (N := some 38) (v := undef) (a' := ?_) rfl rfl (any_of HT_.out (by kernel_rfl)) (fun _ _ _ h => h) (Or.inr ⟨by rfl, rfl⟩) ?_ ?_; rotate_left
     · simp only [Act.put, List.setIfInBounds_toArray, List.set_cons_zero, List.set_cons_succ, i64_w, i32_w]; rfl
     refine pu_ (i := 8) (N := some 39) (v := undef) (a' := ?_) rfl rfl (any_of HT_.out (by kernel_rfl)) (fun _ _ _ h => h) (Or.inr ⟨by rfl, rfl⟩) ?_ ?_; rotate_left
     · simp only [Act.put, List.setIfInBounds_toArray, List.set_cons_zero, List.set_cons_succ, i64_w, i32_w]; rfl
     refine pu_ (i := 9) (N := some 40) (v := undef) (a' := ?_) rfl rfl (any_of HT_.out (by kernel_rfl)) (fun _ _ _ h => h) (Or.inr ⟨by rfl, rfl⟩) ?_ ?_; rotate_left
     · simp only [Act.put, List.setIfInBounds_toArray, List.set_cons_zero, List.set_cons_succ, i64_w, i32_w]; rfl
     refine pu_ (i := 10) (N := some 41) (v := ?_) (a' := ?_) rfl rfl (any_of HT_.out (by kernel_rfl)) (fun _ _ _ h => h) (Or.inl ⟨by rfl, ?_⟩) ?_ ?_; rotate_left
     · intro w'; go_simp; all_goals (first | with_reducible rfl | (simp [Instr.field, go_sem]; rfl))
     rotate_left
     · simp only [Act.put, List.setIfInBounds_toArray, List.set_cons_zero, List.set_cons_succ, i64_w, i32_w]; rfl
     refine pu_ (i := 11) (N := some 42) (v := ?_) (a' := ?_) rfl rfl (any_of HT_.out (by kernel_rfl)) (fun _ _ _ h => h) (Or.inl ⟨by rfl, ?_⟩) ?_ ?_; rotate_left
     · intro w'; go_simp; all_goals (first | with_reducible rfl | (simp [Instr.field, go_sem]; rfl))
     rotate_left
     · simp only [Act.put, List.setIfInBounds_toArray, List.set_cons_zero, List.set_cons_succ, i64_w, i32_w]; rfl
     refine pu_ (i := 12) (N := some 43) (v := undef) (a' := ?_) rfl rfl (any_of HT_.out (by kernel_rfl)) (fun _ _ _ h => h) (Or.inr ⟨by rfl, rfl⟩) ?_ ?_; rotate_left
     · simp only [Act.put, List.setIfInBounds_toArray, List.set_cons_zero, List.set_cons_succ, i64_w, i32_w]; rfl
     refine pu_ (i := 13) (N := some 44) (v := undef) (a' := ?_) rfl rfl (any_of HT_.out (by kernel_rfl)) (fun _ _ _ h => h) (Or.inr ⟨by rfl, rfl⟩) ?_ ?_; rotate_left
     · simp only [Act.put, List.setIfInBounds_toArray, List.set_cons_zero, List.set_cons_succ, i64_w, i32_w]; rfl
     refine pu_ (i := 14) (N := some 45) (v := undef) (a' := ?_) rfl rfl (any_of HT_.out (by kernel_rfl)) (fun _ _ _ h => h) (Or.inr ⟨by rfl, rfl⟩) ?_ ?_; rotate_left
     · simp only [Act.put, List.setIfInBounds_toArray, List.set_cons_zero, List.set_cons_succ, i64_w, i32_w]; rfl
     refine pu_ (i := 15) (N := some 46) (v := undef) (a' := ?_) rfl rfl (any_of HT_.out (by kernel_rfl)) (fun _ _ _ h => h) (Or.inr ⟨by rfl, rfl⟩) ?_ ?_; rotate_left
     · simp only [Act.put, List.setIfInBounds_toArray, List.set_cons_zero, List.set_cons_succ, i64_w, i32_w]; rfl
     refine pu_ (i := 16) (N := some 47) (v := undef) (a' := ?_) rfl rfl (any_of HT_.out (by kernel_rfl)) (fun _ _ _ h => h) (Or.inr ⟨by rfl, rfl⟩) ?_ ?_; rotate_left
     · simp only [Act.put, List.setIfInBounds_toArray, List.set_cons_zero, List.set_cons_succ, i64_w, i32_w]; rfl
     refine pu_ (i := 17) (N := some 48) (v := ?_) (a' := ?_) rfl rfl (any_of HT_.out (by kernel_rfl)) (fun _ _ _ h => h) (Or.inl ⟨by rfl, ?_⟩) ?_ ?_; rotate_left
     · intro w'; go_simp; all_goals (first | with_reducible rfl | (simp [Instr.field, go_sem]; rfl))
     rotate_left
     · simp only [Act.put, List.setIfInBounds_toArray, List.set_cons_zero, List.set_cons_succ, i64_w, i32_w]; rfl
     refine pu_ (i := 18) (N := some 49) (v := ?_) (a' := ?_) rfl rfl (any_of HT_.out (by kernel_rfl)) (fun _ _ _ h => h) (Or.inl ⟨by rfl, ?_⟩) ?_ ?_; rotate_left
     · intro w'; go_simp; all_goals (first | with_reducible rfl | (simp [Instr.field, go_sem]; rfl))
     rotate_left
     · simp only [Act.put, List.setIfInBounds_toArray, List.set_cons_zero, List.set_cons_succ, i64_w, i32_w]; rfl
     refine pu_ (i := 19) (N := some 50) (v := undef) (a' := ?_) rfl rfl (any_of HT_.out (by kernel_rfl)) (fun _ _ _ h => h) (Or.inr ⟨by rfl, rfl⟩) ?_ ?_; rotate_left
     · simp only [Act.put, List.setIfInBounds_toArray, List.set_cons_zero, List.set_cons_succ, i64_w, i32_w]; rfl
     refine pu_ (i := 20) (N := some 51) (v := undef) (a' := ?_) rfl rfl (any_of HT_.out (by kernel_rfl)) (fun _ _ _ h => h) (Or.inr ⟨by rfl, rfl⟩) ?_ ?_; rotate_left
     · simp only [Act.put, List.setIfInBounds_toArray, List.set_cons_zero, List.set_cons_succ, i64_w, i32_w]; rfl
     refine pu_ (i := 21) (N := some 52) (v := undef) (a' := ?_) rfl rfl (any_of HT_.out (by kernel_rfl)) (fun _ _ _ h => h) (Or.inr ⟨by rfl, rfl⟩) ?_ ?_; rotate_left
     · simp only [Act.put, List.setIfInBounds_toArray, List.set_cons_zero, List.set_cons_succ, i64_w, i32_w]; rfl
     refine pu_ (i := 22) (N := some 53) (v := undef) (a' := ?_) rfl rfl (any_of HT_.out (by kernel_rfl)) (fun _ _ _ h => h) (Or.inr ⟨by rfl, rfl⟩) ?_ ?_; rotate_left
     · simp only [Act.put, List.setIfInBounds_toArray, List.set_cons_zero, List.set_cons_succ, i64_w, i32_w]; rfl
     refine pu_ (i := 23) (N := some 54) (v := undef) (a' := ?_) rfl rfl (any_of HT_.out (by kernel_rfl)) (fun _ _ _ h => h) (Or.inr ⟨by rfl, rfl⟩) ?_ ?_; rotate_left
     · simp only [Act.put, List.setIfInBounds_toArray, List.set_cons_zero, List.set_cons_succ, i64_w, i32_w]; rfl
     refine pu_ (i := 24) (N := some 55) (v := undef) (a' := ?_) rfl rfl (any_of HT_.out (by kernel_rfl)) (fun _ _ _ h => h) (Or.inr ⟨by rfl, rfl⟩) ?_ ?_; rotate_left
     · simp only [Act.put, List.setIfInBounds_toArray, List.set_cons_zero, List.set_cons_succ, i64_w, i32_w]; rfl
     refine pu_ (i := 25) (N := some 56) (v := undef) (a' := ?_) rfl rfl (any_of HT_.out (by kernel_rfl)) (fun _ _ _ h => h) (Or.inr ⟨by rfl, rfl⟩) ?_ ?_; rotate_left
     · simp only [Act.put, List.setIfInBounds_toArray, List.set_cons_zero, List.set_cons_succ, i64_w, i32_w]; rfl
     refine pu_ (i := 26) (N := some 57) (v := undef) (a' := ?_) rfl rfl (any_of HT_.out (by kernel_rfl)) (fun _ _ _ h => h) (Or.inr ⟨by rfl, rfl⟩) ?_ ?_; rotate_left
     · simp only [Act.put, List.setIfInBounds_toArray, List.set_cons_zero, List.set_cons_succ, i64_w, i32_w]; rfl
     refine pu_ (i := 27) (N := some 58) (v := undef) (a' := ?_) rfl rfl (any_of HT_.out (by kernel_rfl)) (fun _ _ _ h => h) (Or.inr ⟨by rfl, rfl⟩) ?_ ?_; rotate_left
     · simp only [Act.put, List.setIfInBounds_toArray, List.set_cons_zero, List.set_cons_succ, i64_w, i32_w]; rfl
     refine pu_ (i := 28) (N := some 59) (v := undef) (a' := ?_) rfl rfl (any_of HT_.out (by kernel_rfl)) (fun _ _ _ h => h) (Or.inr ⟨by rfl, rfl⟩) ?_ ?_; rotate_left
     · simp only [Act.put, List.setIfInBounds_toArray, List.set_cons_zero, List.set_cons_succ, i64_w, i32_w]; rfl
     refine pu_ (i := 29) (N := some 60) (v := ?_) (a' := ?_) rfl rfl (any_of HT_.out (by kernel_rfl)) (fun _ _ _ h => h) (Or.inl ⟨by rfl, ?_⟩) ?_ ?_; rotate_left
     · intro w'; go_simp; all_goals (first | with_reducible rfl | (simp [Instr.field, go_sem]; rfl))
     rotate_left
     · simp only [Act.put, List.setIfInBounds_toArray, List.set_cons_zero, List.set_cons_succ, i64_w, i32_w]; rfl
     refine pu_ (i := 30) (N := some 4) (v := ?_) (a' := ?_) rfl rfl (any_of HT_.out (by kernel_rfl)) (fun _ _ _ h => h) (Or.inl ⟨by rfl, ?_⟩) ?_ ?_; rotate_left
     · intro w'; go_simp; all_goals (first | with_reducible rfl | (simp [Instr.field, go_sem]; rfl))
     rotate_left
     · simp only [Act.put, List.setIfInBounds_toArray, List.set_cons_zero, List.set_cons_succ, i64_w, i32_w]; rfl
     refine done_ (done_of HT_.out (by kernel_rfl)) ?_
     try go_wp2
     go_ret
     exact ⟨ve_, hb_⟩
   ·
    replace c8 := Bool.eq_false_iff.mpr c8
    subst c8
    (try rw [if_neg (show ¬ (false = true) by decide)] at H)
    obtain rfl := Option.some.inj H
    go_enter Try.func126, Try.ntmps126
    go_wp2_with (first | ((with_reducible refine gate_callee (f := 144) rfl ?_); refine goesY_ (some 29) Try.func144 #[.int .i64 ((rd_T104 l0 a1).f0)] rfl ?_; (with_reducible refine (spec_l12Two.calls ((rd_T104 l0 a1).f0) false _ A7.out).mono ?_); rintro e w' ⟨rfl, ⟨nd, rfl⟩⟩; refine ⟨_, rfl, ?_⟩))
    go_ret
    exact ⟨ve_, hb_⟩
 · rw [if_neg c3] at H
   exact absurd H (by simp)

end Go.Proofs.Ytnehephjliankaa.PFnExactCmdFault

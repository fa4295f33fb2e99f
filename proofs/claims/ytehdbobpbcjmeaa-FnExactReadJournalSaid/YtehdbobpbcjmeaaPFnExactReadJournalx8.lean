/- Functions of the program as Lean functions, each with the proof that its call comes to what that function says (texts written by a program of this session). Conditions: those that stand in each theorem. -/
import Derived.Test.YtehdbobpbcjmeaaPFnExactReadJournalx0
import Derived.Test.YtehdbobpbcjmeaaPFnExactReadJournalx7
namespace Go.Proofs.Ytehdbobpbcjmeaa.PFnExactReadJournal
open Go.RowKit Go.Proofs.YtehdbobpbcjmeaaW.PrintWords Go.Proofs.YtehdbobpbcjmeaaW.PrintLast Go.Proofs.YtehdbobpbcjmeaaW.PrintMore
attribute [local go_sem] max2_int min2_int max_two min_two max_three min_three max_four min_four   -- for this text's walks alone
set_option linter.unusedVariables false
set_option linter.unusedSimpArgs false

/-! ### impl_packed: function 61 -/
def impl_packed.l0 : Nat → List Int → List Int → Int → Int → Int → ByteArray → ByteArray → List Int → Int → Int → Int → List Int → Option (List Int)
 | 0, _, _, _, _, _, _, _, _, _, _, _, _ => none
 | k + 1, x3, x37, x38, x39, x359000, x359001, x359002, x359003, x359004, x359005, x359006, x359007 => if x39 < x38 then (if 0 ≤ x39 then (if x39 < (x37.length : Int) then ((impl_two.f (rd x37 x39)).bind fun t375 => (if x3.length + t375.length < 140737488355328 then (impl_packed.l0 k (x3 ++ t375) x37 x38 (wrap64 (x39 + 1)) x359000 x359001 x359002 x359003 x359004 x359005 x359006 x359007) else (none))) else (none)) else (none)) else ((some (([(x359004) % 256, (x359005) % 256] : List Int) : List Int)).bind fun y381 => (if x3.length + y381.length < 140737488355328 then ((some (x3 ++ y381 : List Int)).bind fun y384 => ((impl_two.f x359006).bind fun t387 => (if y384.length + t387.length < 140737488355328 then ((some (y384 ++ t387 : List Int)).bind fun y390 => ((impl_length_byte.f x359007).bind fun t393 => ((impl_two.f t393).bind fun t394 => (if y390.length + t394.length < 140737488355328 then ((some (y390 ++ t394 : List Int)).bind fun y397 => (if y397.length + x359007.length < 140737488355328 then ((some (y397 ++ x359007 : List Int)).bind fun y400 => ((impl_length_byte.f y400).bind fun t403 => ((impl_two.f (wrap64 (t403 + 4))).bind fun t404 => (if t404.length + y400.length < 140737488355328 then ((some (t404 ++ y400 : List Int)).bind fun y407 => ((impl_sumOf.f k y407).bind fun t410 => ((impl_two.f t410).bind fun t411 => (if y407.length + t411.length < 140737488355328 then (some (y407 ++ t411)) else (none))))) else (none))))) else (none))) else (none))))) else (none)))) else (none)))
def impl_packed.f (k : Nat) (a0_0 : Int) (a0_1 : ByteArray) (a0_2 : ByteArray) (l0_3 : List Int) (a0_4 : Int) (a0_5 : Int) (a0_6 : Int) (l0_7 : List Int) : Option (List Int) := (some (([(a0_0) % 256, ((a0_1.size : Int)) % 256] : List Int) : List Int)).bind fun y359 => (if y359.length + a0_1.size < 140737488355328 then ((some (y359 ++ bytesOf a0_1 : List Int)).bind fun y362 => (if y362.length < 140737488355328 then ((some (y362 ++ [((a0_2.size : Int)) % 256] : List Int)).bind fun y365 => (if y365.length + a0_2.size < 140737488355328 then ((some (y365 ++ bytesOf a0_2 : List Int)).bind fun y368 => (if y368.length < 140737488355328 then (impl_packed.l0 k (y368 ++ [((l0_3.length : Int)) % 256]) l0_3 (l0_3.length : Int) 0 a0_0 a0_1 a0_2 l0_3 a0_4 a0_5 a0_6 l0_7) else (none))) else (none))) else (none))) else (none))
def impl_packed.T3 : Bool × List (List Nat × List Nat) := (true, [([], []), ([], []), ([1], [1]), ([2], [2]), ([3], [3]), ([4], [4]), ([0, 5], [0, 5]), ([], []), ([7], [7]), ([6, 8, 6], [6, 8]), ([9, 9, 0, 1, 2, 3, 4, 5, 6, 7, 8, 9], [0, 9])])
def impl_packed.B3 : List Nat := [0, 0, 2, 6, 14, 30, 63, 0, 128, 511, 1023]
theorem impl_packed.tab3 : rtab .any (opsOf Try.f61 3) = impl_packed.T3 := by kernel_rfl
theorem impl_packed.bits3 : waitsOk impl_packed.T3.2 impl_packed.B3 = true := by kernel_rfl
def impl_packed.T11 : Bool × List (List Nat × List Nat) := (true, [([], []), ([], []), ([1], [1]), ([2], [2]), ([0, 3, 3], [0, 3]), ([], []), ([5], [5]), ([6, 4], [6]), ([7, 7], [7]), ([4, 8, 8], [4, 8]), ([9, 9, 0, 1, 2, 3, 4, 5, 6, 7, 8, 9], [0, 9])])
def impl_packed.B11 : List Nat := [0, 0, 2, 6, 15, 0, 32, 127, 255, 511, 1023]
theorem impl_packed.tab11 : rtab .any (opsOf Try.f61 11) = impl_packed.T11 := by kernel_rfl
theorem impl_packed.bits11 : waitsOk impl_packed.T11.2 impl_packed.B11 = true := by kernel_rfl
set_option maxHeartbeats 8000000 in
set_option maxRecDepth 100000 in
theorem impl_packed.calls (k : Nat) (a0_0 : Int) (a0_1 : ByteArray) (a0_2 : ByteArray) (A0_3 : Option Addr) (c0_3 : Nat) (l0_3 : List Int) (a0_4 : Int) (a0_5 : Int) (a0_6 : Int) (A0_7 : Option Addr) (c0_7 : Nat) (l0_7 : List Int) (r : List Int) (w : World) (hr0_3 : Kd.C (Kd.int .i64) w A0_3 l0_3.length l0_3) (hc0_3 : l0_3.length ≤ c0_3) (hr0_7 : Kd.C (Kd.int .u8) w A0_7 l0_7.length l0_7) (hc0_7 : l0_7.length ≤ c0_7) (h : impl_packed.f k a0_0 a0_1 a0_2 l0_3 a0_4 a0_5 a0_6 l0_7 = some r) :
 Calls Try.prog 61 #[.agg #[.int .i64 a0_0, .string a0_1, .string a0_2, .slice A0_3 l0_3.length c0_3, .int .i64 a0_4, .int .i64 a0_5, .int .i64 a0_6, .slice A0_7 l0_7.length c0_7]] w fun e w' => ∃ v0_ : Value, e = .returned (v0_) ∧ Kd.R (Kd.int .u8) 5 w' w.heap.size (fun _ => True) v0_ r ∧ Below w.heap.size w w' := by
 have hu37 := Try.underlying37
 have HR0_3 := Aside0.mk hr0_3
 have HC0_3 := Aside0.mk hc0_3
 clear hr0_3 hc0_3
 have HR0_7 := Aside0.mk hr0_7
 have HC0_7 := Aside0.mk hc0_7
 clear hr0_7 hc0_7
 have HB := Aside0.mk (Below.refl w.heap.size w)
 have H : ((some (([(a0_0) % 256, ((a0_1.size : Int)) % 256] : List Int) : List Int)).bind fun y359 => (if y359.length + a0_1.size < 140737488355328 then ((some (y359 ++ bytesOf a0_1 : List Int)).bind fun y362 => (if y362.length < 140737488355328 then ((some (y362 ++ [((a0_2.size : Int)) % 256] : List Int)).bind fun y365 => (if y365.length + a0_2.size < 140737488355328 then ((some (y365 ++ bytesOf a0_2 : List Int)).bind fun y368 => (if y368.length < 140737488355328 then (impl_packed.l0 k (y368 ++ [((l0_3.length : Int)) % 256]) l0_3 (l0_3.length : Int) 0 a0_0 a0_1 a0_2 l0_3 a0_4 a0_5 a0_6 l0_7) else (none))) else (none))) else (none))) else (none))) = some r := h
 clear h
 obtain ⟨y359, hy359⟩ : ∃ y_ : List Int, y_ = (([(a0_0) % 256, ((a0_1.size : Int)) % 256] : List Int)) := ⟨_, rfl⟩
 replace H : (if y359.length + a0_1.size < 140737488355328 then ((some (y359 ++ bytesOf a0_1 : List Int)).bind fun y362 => (if y362.length < 140737488355328 then ((some (y362 ++ [((a0_2.size : Int)) % 256] : List Int)).bind fun y365 => (if y365.length + a0_2.size < 140737488355328 then ((some (y365 ++ bytesOf a0_2 : List Int)).bind fun y368 => (if y368.length < 140737488355328 then (impl_packed.l0 k (y368 ++ [((l0_3.length : Int)) % 256]) l0_3 (l0_3.length : Int) 0 a0_0 a0_1 a0_2 l0_3 a0_4 a0_5 a0_6 l0_7) else (none))) else (none))) else (none))) else (none)) = some r := by first | (rw [hy359]; with_reducible exact H) | (have H2_ := (Option.bind_some _ _).symm.trans H; rw [hy359]; with_reducible exact H2_) | (have H2_ := (Option.bind_some _ _).symm.trans H; with_reducible exact H2_) | with_reducible exact H | (rw [hy359]; exact H) | exact H
 have Ny359 := Aside0.mk hy359
 clear hy359
 by_cases c2 : y359.length + a0_1.size < 140737488355328
 ·
  rw [if_pos c2] at H
  have LMc2 := Aside0.mk c2
  clear c2
  obtain ⟨y362, hy362⟩ : ∃ y_ : List Int, y_ = (y359 ++ bytesOf a0_1) := ⟨_, rfl⟩
  replace H : (if y362.length < 140737488355328 then ((some (y362 ++ [((a0_2.size : Int)) % 256] : List Int)).bind fun y365 => (if y365.length + a0_2.size < 140737488355328 then ((some (y365 ++ bytesOf a0_2 : List Int)).bind fun y368 => (if y368.length < 140737488355328 then (impl_packed.l0 k (y368 ++ [((l0_3.length : Int)) % 256]) l0_3 (l0_3.length : Int) 0 a0_0 a0_1 a0_2 l0_3 a0_4 a0_5 a0_6 l0_7) else (none))) else (none))) else (none)) = some r := by first | (rw [hy362]; with_reducible exact H) | (have H2_ := (Option.bind_some _ _).symm.trans H; rw [hy362]; with_reducible exact H2_) | (have H2_ := (Option.bind_some _ _).symm.trans H; with_reducible exact H2_) | with_reducible exact H | (rw [hy362]; exact H) | exact H
  have Ny362 := Aside0.mk hy362
  clear hy362
  by_cases c3 : y362.length < 140737488355328
  case neg => rw [if_neg c3] at H; exact absurd H (by simp)
  rw [if_pos c3] at H
  have LMc3 := Aside0.mk c3
  clear c3
  obtain ⟨y365, hy365⟩ : ∃ y_ : List Int, y_ = (y362 ++ [((a0_2.size : Int)) % 256]) := ⟨_, rfl⟩
  replace H : (if y365.length + a0_2.size < 140737488355328 then ((some (y365 ++ bytesOf a0_2 : List Int)).bind fun y368 => (if y368.length < 140737488355328 then (impl_packed.l0 k (y368 ++ [((l0_3.length : Int)) % 256]) l0_3 (l0_3.length : Int) 0 a0_0 a0_1 a0_2 l0_3 a0_4 a0_5 a0_6 l0_7) else (none))) else (none)) = some r := by first | (rw [hy365]; with_reducible exact H) | (have H2_ := (Option.bind_some _ _).symm.trans H; rw [hy365]; with_reducible exact H2_) | (have H2_ := (Option.bind_some _ _).symm.trans H; with_reducible exact H2_) | with_reducible exact H | (rw [hy365]; exact H) | exact H
  have Ny365 := Aside0.mk hy365
  clear hy365
  by_cases c4 : y365.length + a0_2.size < 140737488355328
  case neg => rw [if_neg c4] at H; exact absurd H (by simp)
  rw [if_pos c4] at H
  have LMc4 := Aside0.mk c4
  clear c4
  obtain ⟨y368, hy368⟩ : ∃ y_ : List Int, y_ = (y365 ++ bytesOf a0_2) := ⟨_, rfl⟩
  replace H : (if y368.length < 140737488355328 then (impl_packed.l0 k (y368 ++ [((l0_3.length : Int)) % 256]) l0_3 (l0_3.length : Int) 0 a0_0 a0_1 a0_2 l0_3 a0_4 a0_5 a0_6 l0_7) else (none)) = some r := by first | (rw [hy368]; with_reducible exact H) | (have H2_ := (Option.bind_some _ _).symm.trans H; rw [hy368]; with_reducible exact H2_) | (have H2_ := (Option.bind_some _ _).symm.trans H; with_reducible exact H2_) | with_reducible exact H | (rw [hy368]; exact H) | exact H
  have Ny368 := Aside0.mk hy368
  clear hy368
  by_cases c5 : y368.length < 140737488355328
  case neg => rw [if_neg c5] at H; exact absurd H (by simp)
  rw [if_pos c5] at H
  have LMc5 := Aside0.mk c5
  clear c5
  obtain ⟨y371, hy371⟩ : ∃ y_ : List Int, y_ = (y368 ++ [((l0_3.length : Int)) % 256]) := ⟨_, rfl⟩
  replace H : (impl_packed.l0 k y371 l0_3 (l0_3.length : Int) 0 a0_0 a0_1 a0_2 l0_3 a0_4 a0_5 a0_6 l0_7) = some r := by first | (rw [hy371]; with_reducible exact H) | (have H2_ := (Option.bind_some _ _).symm.trans H; rw [hy371]; with_reducible exact H2_) | (have H2_ := (Option.bind_some _ _).symm.trans H; with_reducible exact H2_) | with_reducible exact H | (rw [hy371]; exact H) | exact H
  have Ny371 := Aside0.mk hy371
  clear hy371
  have H' := Aside0.mk H
  clear H
  go_enter Try.func61, Try.ntmps61
  try go_wp2_with (first | ((with_reducible refine gate_dst (N := 1) rfl ?_); refine box_event ?hg (N := 1) ?hd (cs := #[.int .i64 a0_0, .string a0_1, .string a0_2, .slice A0_3 l0_3.length c0_3, .int .i64 a0_4, .int .i64 a0_5, .int .i64 a0_6, .slice A0_7 l0_7.length c0_7]) (t := 37) ?hr ?_; (case hd => rfl); (case hg => rfl); (case hr => first | (go_simp; done) | (go_simp; rfl)); intro gb358 hg w6 hbox hb; have n0_ := Aside0.mk (below_step (HB_up HB.out) hb); have n1_ := Aside0.mk (hbox); have n2_ := Aside0.mk ((by rw [hg]; exact (below_size (HB_up HB.out)) : w.heap.size ≤ gb358)); have n3_ := Aside0.mk ((by rw [hg]; exact (below_size (HB_up HB.out)) : w.heap.size ≤ gb358)); clear HB; have HB := n0_; have BK358 := n1_; have GW358 := n2_; have GE358 := n3_; clear n0_ n1_ n2_ n3_; clear hb hbox hg; obtain ⟨hcz7_0, hcz7_1, hcz7_2, hcz7_3, hcz7_4, hcz7_5, hcz7_6, hcz7_7⟩ := blk_cells8 BK358.out; obtain ⟨hfz7_0, hfz7_1, hfz7_2, hfz7_3, hfz7_4, hfz7_5, hfz7_6, hfz7_7⟩ := blk_frozen8 BK358.out) | ((with_reducible refine gate_dst (N := 14) rfl ?_); refine Kd.R_lit (Kd.int .u8) _ 5 ?hg (N := 14) ?hd (xs := ([(a0_0) % 256, ((a0_1.size : Int)) % 256] : List Int)) (inner := [.int .u8 ((a0_0) % 256), .int .u8 (((a0_1.size : Int)) % 256)]) (ok := fun _ => True) (okp := fun _ => True) ?hr ?hp (fun _ hk => hk) trivial (Below.refl _ _) (Nat.le_refl _) (by simp) ?_; (case hd => rfl); (case hg => rfl); (case hr => first | (go_simp; done) | (go_simp; rfl)); (case hp => exact (Reps.one (show Kd.M (Kd.int .u8) _ _ _ ((a0_0) % 256) [.int .u8 ((a0_0) % 256)] from rfl) (Reps.one (show Kd.M (Kd.int .u8) _ _ _ (((a0_1.size : Int)) % 256) [.int .u8 (((a0_1.size : Int)) % 256)] from rfl) (Reps.none _ _)))); intro v360 w8 ho9 hb hg_ hnew_; clear hg_ hnew_; (first | rw [← Ny359.out] at ho9 | (simp only [Int.reduceToNat] at ho9; rw [← Ny359.out] at ho9)); have HO361 := Aside0.mk (Kd.R_lower ho9 (below_size (HB_up HB.out))); replace BK358 := Aside0.mk (blk_below (g := gb358) (blk_up BK358.out) hb); replace HB := Aside0.mk (below_step (HB_up HB.out) hb); clear hb ho9; obtain ⟨hcz10_0, hcz10_1, hcz10_2, hcz10_3, hcz10_4, hcz10_5, hcz10_6, hcz10_7⟩ := blk_cells8 BK358.out; obtain ⟨hfz10_0, hfz10_1, hfz10_2, hfz10_3, hfz10_4, hfz10_5, hfz10_6, hfz10_7⟩ := blk_frozen8 BK358.out) | (at_builtin; refine print_append_str (w0 := w) w.heap.size rfl (.tmp 15) _ 24 9 5 rfl Try.underlying24 Try.underlying9 info5 v360 y359 a0_1 rfl rfl ?aO ?aB ?aS ?aL ?_; (case aB => exact (HB_up HB.out)); (case aO => exact (Kd.own_of_R (R_up HO361.out))); (case aS => exact (below_size (HB_up HB.out))); (case aL => have := LMc2.out; omega); intro v363 w11 ho0 hb hg; have ho := Kd.R_of_own (h1 := fun _ => rfl) (ok := fun _ => True) ho0 (fun _ _ => trivial); clear ho0; have hat := True.intro; rw [← Ny362.out] at ho; change Kd.R (Kd.int .u8) 5 w11 w.heap.size (fun _ => True) v363 y362 at ho; have n0_ := Aside0.mk (blk_grown (g := gb358) (blk_up BK358.out) hg (Kd.R_ne HO361.out BK358.out (by decide))); have n1_ := Aside0.mk (hb); have n2_ := Aside0.mk (ho); clear BK358; clear HB; clear HO361; have BK358 := n0_; have HB := n1_; have HO364 := n2_; clear n0_ n1_ n2_; clear ho hb hg hat))
  replace HO364 := Aside0.mk (Kd.R_drew HO364.out)
  replace BK358 := Aside0.mk (blk_drew BK358.out)
  replace HB := Aside0.mk (below_drew1 HB.out)
  refine start_ (n := 11) (S := fun w' => w'.cell? ⟨gb358, 0, none⟩ = some (.int .i64 a0_0) ∧ w'.cell? ⟨gb358, 1, none⟩ = some (.string a0_1) ∧ w'.cell? ⟨gb358, 2, none⟩ = some (.string a0_2) ∧ w'.cell? ⟨gb358, 3, none⟩ = some (.slice A0_3 l0_3.length c0_3) ∧ w'.cell? ⟨gb358, 4, none⟩ = some (.int .i64 a0_4) ∧ w'.cell? ⟨gb358, 5, none⟩ = some (.int .i64 a0_5) ∧ w'.cell? ⟨gb358, 6, none⟩ = some (.int .i64 a0_6) ∧ w'.cell? ⟨gb358, 7, none⟩ = some (.slice A0_7 l0_7.length c0_7)) (ds := []) #[false, false, false, false, false, false, false, false, false, false, false] (by kernel_rfl) rfl rfl ⟨(blk_cell BK358.out 0).trans rfl, (blk_cell BK358.out 1).trans rfl, (blk_cell BK358.out 2).trans rfl, (blk_cell BK358.out 3).trans rfl, (blk_cell BK358.out 4).trans rfl, (blk_cell BK358.out 5).trans rfl, (blk_cell BK358.out 6).trans rfl, (blk_cell BK358.out 7).trans rfl⟩ (fun hHeld => ?_); refine with_tabW impl_packed.tab3 impl_packed.bits3 (fun HT_ HW_ => ?_)
  generalize w11.drew = w12 at HO364 BK358 HB hHeld ⊢
  refine pu_ (i := 0) (N := some 19) (v := ?_) (a' := ?_) rfl rfl (any_of HT_.out (by kernel_rfl)) (fun _ _ _ h => h) (Or.inl ⟨by rfl, ?_⟩) ?_ ?_; rotate_left
  · intro w'; go_simp; all_goals (first | with_reducible rfl | (simp [Instr.field, go_sem]; rfl))
  rotate_left
  · simp only [Act.put, List.setIfInBounds_toArray, List.set_cons_zero, List.set_cons_succ, i64_w, i32_w]; rfl
  refine pu_ (i := 1) (N := some 20) (v := ?_) (a' := ?_) rfl rfl (any_of HT_.out (by kernel_rfl)) (fun _ _ _ h => h) (Or.inl ⟨by rfl, ?_⟩) ?_ ?_; rotate_left
  · intro w'; go_simp; all_goals (first | with_reducible rfl | (simp [Instr.field, go_sem]; rfl))
  rotate_left
  · simp only [Act.put, List.setIfInBounds_toArray, List.set_cons_zero, List.set_cons_succ, i64_w, i32_w]; rfl
  refine pu_ (i := 7) (N := some 26) (v := ?_) (a' := ?_) rfl rfl (any_of HT_.out (by kernel_rfl)) (fun _ _ _ h => h) (Or.inl ⟨by rfl, ?_⟩) ?_ ?_; rotate_left
  · intro w'; go_simp; all_goals (first | with_reducible rfl | (simp [Instr.field, go_sem]; rfl))
  rotate_left
  · simp only [Act.put, List.setIfInBounds_toArray, List.set_cons_zero, List.set_cons_succ, i64_w, i32_w]; rfl
  refine ta_ (i := 2) (N := some 21) (v := ?_) (a' := ?_) rfl rfl (take_ofW HT_.out HW_.out (by kernel_rfl)) (fun _ _ _ h => h) (Or.inl ⟨by rfl, ?_⟩) hHeld ?_ ?_; rotate_left
  · rintro w' ⟨s0, s1, s2, s3, s4, s5, s6, s7⟩; go_simp; all_goals (first | with_reducible rfl | (simp [Instr.field, go_sem]; rfl))
  rotate_left
  · simp only [Act.put, List.setIfInBounds_toArray, List.set_cons_zero, List.set_cons_succ, i64_w, i32_w]; rfl
  refine pu_ (i := 3) (N := some 22) (v := ?_) (a' := ?_) rfl rfl (any_of HT_.out (by kernel_rfl)) (fun _ _ _ h => h) (Or.inl ⟨by rfl, ?_⟩) ?_ ?_; rotate_left
  · intro w'; go_simp; all_goals (first | with_reducible rfl | (simp [Instr.field, go_sem]; rfl))
  rotate_left
  · simp only [Act.put, List.setIfInBounds_toArray, List.set_cons_zero, List.set_cons_succ, i64_w, i32_w]; rfl
  refine pu_ (i := 4) (N := some 23) (v := ?_) (a' := ?_) rfl rfl (any_of HT_.out (by kernel_rfl)) (fun _ _ _ h => h) (Or.inl ⟨by rfl, ?_⟩) ?_ ?_; rotate_left
  · intro w'; go_simp; all_goals (first | with_reducible rfl | (simp [Instr.field, go_sem]; rfl))
  rotate_left
  · simp only [Act.put, List.setIfInBounds_toArray, List.set_cons_zero, List.set_cons_succ, i64_w, i32_w]; rfl
  refine ta_ (i := 8) (N := some 27) (v := ?_) (a' := ?_) rfl rfl (take_ofW HT_.out HW_.out (by kernel_rfl)) (fun _ _ _ h => h) (Or.inl ⟨by rfl, ?_⟩) hHeld ?_ ?_; rotate_left
  · rintro w' ⟨s0, s1, s2, s3, s4, s5, s6, s7⟩; go_simp; all_goals (first | with_reducible rfl | (simp [Instr.field, go_sem]; rfl))
  rotate_left
  · simp only [Act.put, List.setIfInBounds_toArray, List.set_cons_zero, List.set_cons_succ, i64_w, i32_w]; rfl
  refine on_ (i := 5) (N := some 24) rfl rfl (one_of HT_.out (by kernel_rfl)) (by decide) (fun K hK => ?_)
  refine value_ (w1 := ?_) (v := ?_) (by rfl) rfl ?_ ?_
  rotate_left 2
  · go_simp
    constructor
    · rfl
    · rfl
  refine hK.out _ _ ⟨(blk_cell (blk_alloc BK358.out _) 0).trans rfl, (blk_cell (blk_alloc BK358.out _) 1).trans rfl, (blk_cell (blk_alloc BK358.out _) 2).trans rfl, (blk_cell (blk_alloc BK358.out _) 3).trans rfl, (blk_cell (blk_alloc BK358.out _) 4).trans rfl, (blk_cell (blk_alloc BK358.out _) 5).trans rfl, (blk_cell (blk_alloc BK358.out _) 6).trans rfl, (blk_cell (blk_alloc BK358.out _) 7).trans rfl⟩ (fun hHeld => ?_)
  clear hK K
  refine norm_ (a' := ?_) ?_ ?_
  rotate_left
  · show Act.put _ (some 24) _ = _
    simp only [Act.put, List.setIfInBounds_toArray, List.set_cons_zero, List.set_cons_succ, i64_w, i32_w]
    rfl
  refine on_ (i := 6) (N := some 25) rfl rfl (one_of HT_.out (by kernel_rfl)) (by decide) (fun K hK => ?_)
  refine Kd.R_append_step (Kd.int .u8) (w0 := w) w.heap.size (by rfl) (.tmp 19) (.tmp 24) 24 5 (.int .u8 0) 1 rfl Try.underlying24 info5 rfl (by decide) (by omega) v363 y362 (((a0_2.size : Int)) % 256) [.int .u8 (((a0_2.size : Int)) % 256)] (fun _ => True) (fun _ => False) rfl rfl ?aP (fun _ hk => hk.elim) ?aF ?aO ?aB ?aS ?aL ?_
  (case aP => exact rfl)
  (case aB => exact (HB_up HB.out))
  (case aF => exact (fun _ _ => trivial))
  (case aO => exact (R_up HO364.out))
  (case aS => exact (below_size (HB_up HB.out)))
  (case aL => have := LMc3.out; omega)
  intro v366 w13 ho hb hg hat
  rw [← Ny365.out] at ho
  have n0_ := Aside0.mk (blk_grown (g := gb358) (blk_up BK358.out) hg (Kd.R_ne HO364.out BK358.out (by decide)))
  have n1_ := Aside0.mk (hb)
  have n2_ := Aside0.mk (ho)
  clear BK358
  clear HB
  clear HO364
  have BK358 := n0_
  have HB := n1_
  have HO367 := n2_
  clear n0_ n1_ n2_
  clear ho hb hg hat
  refine hK.out _ _ ⟨(blk_cell BK358.out 0).trans rfl, (blk_cell BK358.out 1).trans rfl, (blk_cell BK358.out 2).trans rfl, (blk_cell BK358.out 3).trans rfl, (blk_cell BK358.out 4).trans rfl, (blk_cell BK358.out 5).trans rfl, (blk_cell BK358.out 6).trans rfl, (blk_cell BK358.out 7).trans rfl⟩ (fun hHeld => ?_)
  clear hK K
  refine norm_ (a' := ?_) ?_ ?_
  rotate_left
  · show Act.put _ (some 25) _ = _
    simp only [Act.put, List.setIfInBounds_toArray, List.set_cons_zero, List.set_cons_succ, i64_w, i32_w]
    rfl
  refine on_ (i := 9) (N := some 28) rfl rfl (one_of HT_.out (by kernel_rfl)) (by decide) (fun K hK => ?_)
  refine print_append_str_step (w0 := w) w.heap.size (by rfl) (.tmp 25) _ 24 9 5 rfl Try.underlying24 Try.underlying9 info5 v366 y365 a0_2 rfl rfl ?aO ?aB ?aS ?aL ?_
  (case aB => exact (HB_up HB.out))
  (case aO => exact (Kd.own_of_R (R_up HO367.out)))
  (case aS => exact (below_size (HB_up HB.out)))
  (case aL => have := LMc4.out; omega)
  intro v369 w14 ho0 hb hg
  have ho := Kd.R_of_own (h1 := fun _ => rfl) (ok := fun _ => True) ho0 (fun _ _ => trivial)
  clear ho0
  have hat := True.intro
  rw [← Ny368.out] at ho
  change Kd.R (Kd.int .u8) 5 w14 w.heap.size (fun _ => True) v369 y368 at ho
  have n0_ := Aside0.mk (blk_grown (g := gb358) (blk_up BK358.out) hg (Kd.R_ne HO367.out BK358.out (by decide)))
  have n1_ := Aside0.mk (hb)
  have n2_ := Aside0.mk (ho)
  clear BK358
  clear HB
  clear HO367
  have BK358 := n0_
  have HB := n1_
  have HO370 := n2_
  clear n0_ n1_ n2_
  clear ho hb hg hat
  refine hK.out _ _ ⟨(blk_cell BK358.out 0).trans rfl, (blk_cell BK358.out 1).trans rfl, (blk_cell BK358.out 2).trans rfl, (blk_cell BK358.out 3).trans rfl, (blk_cell BK358.out 4).trans rfl, (blk_cell BK358.out 5).trans rfl, (blk_cell BK358.out 6).trans rfl, (blk_cell BK358.out 7).trans rfl⟩ (fun hHeld => ?_)
  clear hK K
  refine norm_ (a' := ?_) ?_ ?_
  rotate_left
  · show Act.put _ (some 28) _ = _
    simp only [Act.put, List.setIfInBounds_toArray, List.set_cons_zero, List.set_cons_succ, i64_w, i32_w]
    rfl
  refine pu_ (i := 10) (N := some 3) (v := ?_) (a' := ?_) rfl rfl (any_of HT_.out (by kernel_rfl)) (fun _ _ _ h => h) (Or.inl ⟨by rfl, ?_⟩) ?_ ?_; rotate_left
  · intro w'; go_simp; all_goals (first | with_reducible rfl | (simp [Instr.field, go_sem]; rfl))
  rotate_left
  · simp only [Act.put, List.setIfInBounds_toArray, List.set_cons_zero, List.set_cons_succ, i64_w, i32_w]; rfl
  refine done_ (done_of HT_.out (by kernel_rfl)) ?_
  obtain ⟨hcz15_0, hcz15_1, hcz15_2, hcz15_3, hcz15_4, hcz15_5, hcz15_6, hcz15_7⟩ := blk_cells8 BK358.out
  obtain ⟨hfz15_0, hfz15_1, hfz15_2, hfz15_3, hfz15_4, hfz15_5, hfz15_6, hfz15_7⟩ := blk_frozen8 BK358.out
  try go_wp2_with (first | ((with_reducible refine gate_builtin (b := .append) (xs := #[.tmp 29, .tmp 34]) rfl ?_); at_builtin; refine Kd.R_append (Kd.int .u8) (w0 := w) w.heap.size rfl (.tmp 29) (.tmp 34) 24 5 (.int .u8 0) 1 rfl Try.underlying24 info5 rfl (by decide) (by omega) v369 y368 (((l0_3.length : Int)) % 256) [.int .u8 (((l0_3.length : Int)) % 256)] (fun _ => True) (fun _ => False) rfl rfl ?aP (fun _ hk => hk.elim) ?aF ?aO ?aB ?aS ?aL ?_; (case aP => exact rfl); (case aB => exact (HB_up HB.out)); (case aF => exact (fun _ _ => trivial)); (case aO => exact (R_up HO370.out)); (case aS => exact (below_size (HB_up HB.out))); (case aL => have := LMc5.out; omega); intro v372 w16 ho hb hg hat; rw [← Ny371.out] at ho; have n0_ := Aside0.mk (blk_grown (g := gb358) (blk_up BK358.out) hg (Kd.R_ne HO370.out BK358.out (by decide))); have n1_ := Aside0.mk (hb); have n2_ := Aside0.mk (ho); clear BK358; clear HB; clear HO370; have BK358 := n0_; have HB := n1_; have HO373 := n2_; clear n0_ n1_ n2_; clear ho hb hg hat; obtain ⟨hcz17_0, hcz17_1, hcz17_2, hcz17_3, hcz17_4, hcz17_5, hcz17_6, hcz17_7⟩ := blk_cells8 BK358.out; obtain ⟨hfz17_0, hfz17_1, hfz17_2, hfz17_3, hfz17_4, hfz17_5, hfz17_6, hfz17_7⟩ := blk_frozen8 BK358.out))
  go_loopg [3, 39] k (fun kq v3 v39 w' => ∃ (x3_1 : List Int) (x39_1 : Int), v39 = .int .i64 x39_1 ∧ Aside0 (impl_packed.l0 kq x3_1 l0_3 (l0_3.length : Int) x39_1 a0_0 a0_1 a0_2 l0_3 a0_4 a0_5 a0_6 l0_7 = some r) ∧ Aside0 (kq ≤ k) ∧ Aside0 (Kd.R (Kd.int .u8) 5 w' w.heap.size (fun _ => True) v3 x3_1) ∧ Aside0 (w'.heap[gb358]? = some (.cells #[.int .i64 a0_0, .string a0_1, .string a0_2, (.slice A0_3 l0_3.length c0_3), .int .i64 a0_4, .int .i64 a0_5, .int .i64 a0_6, (.slice A0_7 l0_7.length c0_7)] 37 (0, 0))) ∧ Aside0 (Below w.heap.size w w'))
  case atStart => exact ⟨(y371), (0), vl_, H', ⟨Nat.le_refl _⟩, ⟨R_up HO373.out⟩, ⟨blk_up BK358.out⟩, ⟨hs_⟩⟩
  case round =>
   clear H'
   try clear c2
   try clear c3
   try clear c4
   try clear c5
   try clear hcz10_0
   try clear hcz10_1
   try clear hcz10_2
   try clear hcz10_3
   try clear hcz10_4
   try clear hcz10_5
   try clear hcz10_6
   try clear hcz10_7
   try clear hcz15_0
   try clear hcz15_1
   try clear hcz15_2
   try clear hcz15_3
   try clear hcz15_4
   try clear hcz15_5
   try clear hcz15_6
   try clear hcz15_7
   try clear hcz17_0
   try clear hcz17_1
   try clear hcz17_2
   try clear hcz17_3
   try clear hcz17_4
   try clear hcz17_5
   try clear hcz17_6
   try clear hcz17_7
   try clear hcz7_0
   try clear hcz7_1
   try clear hcz7_2
   try clear hcz7_3
   try clear hcz7_4
   try clear hcz7_5
   try clear hcz7_6
   try clear hcz7_7
   try clear hfz10_0
   try clear hfz10_1
   try clear hfz10_2
   try clear hfz10_3
   try clear hfz10_4
   try clear hfz10_5
   try clear hfz10_6
   try clear hfz10_7
   try clear hfz15_0
   try clear hfz15_1
   try clear hfz15_2
   try clear hfz15_3
   try clear hfz15_4
   try clear hfz15_5
   try clear hfz15_6
   try clear hfz15_7
   try clear hfz17_0
   try clear hfz17_1
   try clear hfz17_2
   try clear hfz17_3
   try clear hfz17_4
   try clear hfz17_5
   try clear hfz17_6
   try clear hfz17_7
   try clear hfz7_0
   try clear hfz7_1
   try clear hfz7_2
   try clear hfz7_3
   try clear hfz7_4
   try clear hfz7_5
   try clear hfz7_6
   try clear hfz7_7
   obtain ⟨x3_1, x39_1, rfl, HA, HK1, HO_3, BK358, HB⟩ := hrel
   cases gk with
   | zero => exact absurd HA.out (by simp [impl_packed.l0])
   | succ k1 =>
     have H := HA.out
     clear HA
     simp only [impl_packed.l0] at H
     by_cases c18 : x39_1 < (l0_3.length : Int)
     ·
      rw [if_pos c18] at H
      have c18b0 : decide (x39_1 < (l0_3.length : Int)) = true := decide_eq_true c18
      clear c18
      by_cases c19 : 0 ≤ x39_1
      case neg => rw [if_neg c19] at H; exact absurd H (by simp)
      rw [if_pos c19] at H
      have c19b0 : decide (0 ≤ x39_1) = true := decide_eq_true c19
      clear c19
      by_cases c20 : x39_1 < (l0_3.length : Int)
      case neg => rw [if_neg c20] at H; exact absurd H (by simp)
      rw [if_pos c20] at H
      have c20b0 : decide (x39_1 < (l0_3.length : Int)) = true := decide_eq_true c20
      clear c20
      replace H := Option.bind_eq_some_iff.mp H
      obtain ⟨t375, A210, H⟩ := H
      (try dsimp only at H)
      have A21 := Aside0.mk A210
      clear A210
      by_cases c22 : x3_1.length + t375.length < 140737488355328
      case neg => rw [if_neg c22] at H; exact absurd H (by simp)
      rw [if_pos c22] at H
      have LMc22 := Aside0.mk c22
      clear c22
      obtain ⟨y378, hy378⟩ : ∃ y_ : List Int, y_ = (x3_1 ++ t375) := ⟨_, rfl⟩
      replace H : (impl_packed.l0 k1 y378 l0_3 (l0_3.length : Int) (wrap64 (x39_1 + 1)) a0_0 a0_1 a0_2 l0_3 a0_4 a0_5 a0_6 l0_7) = some r := by first | (rw [hy378]; with_reducible exact H) | (have H2_ := (Option.bind_some _ _).symm.trans H; rw [hy378]; with_reducible exact H2_) | (have H2_ := (Option.bind_some _ _).symm.trans H; with_reducible exact H2_) | with_reducible exact H | (rw [hy378]; exact H) | exact H
      have Ny378 := Aside0.mk hy378
      clear hy378
      have H' := Aside0.mk H
      clear H
      have p374 : 0 ≤ (x39_1 : Int) := od_
      have q374 : x39_1 < (l0_3.length : Int) := od_
      obtain ⟨ad374, e374, hx374_0⟩ := Kd.at_int HR0_3.out x39_1 p374 q374
      cases e374
      replace hx374_0 := ck_ HB.out hx374_0
      replace p374 := eq_true p374
      replace q374 := eq_true q374
      go_wp2_with (first | ((with_reducible refine gate_callee (f := 96) rfl ?_); refine goesY_ (some 45) Try.func96 #[.int .i64 (rd l0_3 x39_1)] rfl ?_; (with_reducible refine (impl_two.calls (rd l0_3 x39_1) t375 _ A21.out).mono ?_); rintro e w23 ⟨v376, rfl, ho0, hb⟩; refine ⟨_, rfl, ?_⟩; have n0_ := Aside0.mk (Kd.R_elder' (R_up HO_3.out) (Kd.R_base ho0) hb); have n1_ := Aside0.mk (Kd.R_lower (Kd.R_new' ho0 (Kd.R_lt (R_up HO_3.out))) (below_size (HB_up HB.out))); have n2_ := Aside0.mk (blk_below (g := gb358) (blk_up BK358.out) hb); have n3_ := Aside0.mk (below_step (HB_up HB.out) hb); clear HO_3; clear BK358; clear HB; have HO_3 := n0_; have HO377 := n1_; have BK358 := n2_; have HB := n3_; clear n0_ n1_ n2_ n3_; (try clear hb); (try clear hb2); (try clear hk); (try clear hi); (try clear ho0); obtain ⟨Ao25, co25, eo25⟩ := Kd.R_slice HO377.out; subst eo25) | ((with_reducible refine gate_builtin (b := .append) (xs := #[.tmp 43, .tmp 45]) rfl ?_); at_builtin; refine Kd.R_append_rows (Kd.int .u8) (w0 := w) w.heap.size rfl (.tmp 43) (.tmp 45) 24 5 (.int .u8 0) 1 rfl Try.underlying24 info5 rfl (by decide) (by omega) u3 x3_1 t375 _ _ _ (fun k_ => some k_ ≠ (.slice Ao25 t375.length co25 : Value).ownBlock) (fun _ => False) rfl rfl ?aO ?aR (fun _ _ h => h) (fun _ h => h.elim) ?aF ?aB ?aS ?aL ?_; (case aR => exact C_up (Kd.R_reads' HO377.out).2.2); (case aB => exact (HB_up HB.out)); (case aF => exact (fun k_ hk => Kd.fresh' (Kd.R_lt (R_up HO377.out)) k_ hk)); (case aO => exact (by (with_reducible repeat (first | apply Kd.R_alloc | apply Kd.R_drewN | apply Kd.R_drew)); exact Kd.R_mono HO_3.out (fun _ hk => hk.2))); (case aS => exact (below_size (HB_up HB.out))); (case aL => have := LMc22.out; omega); intro v379 w24 ho hb hg hat; rw [← Ny378.out] at ho; have n0_ := Aside0.mk (blk_grown (g := gb358) (blk_up BK358.out) hg (Kd.R_ne HO_3.out BK358.out (by decide))); have n1_ := Aside0.mk (Kd.R_after (ok := (fun _ => True)) (R_up HO377.out) hg hat); have n2_ := Aside0.mk (hb); have n3_ := Aside0.mk (ho); clear BK358; clear HO377; clear HB; clear HO_3; have BK358 := n0_; have HO377 := n1_; have HB := n2_; have HO380 := n3_; clear n0_ n1_ n2_ n3_; clear ho hb hg hat))
      go_roundg k1
      case measure => have := HK1.out; omega
      case rel => exact ⟨(y378), (wrap64 (x39_1 + 1)), vl_, H', ⟨by have := HK1.out; omega⟩, ⟨by (with_reducible repeat (first | apply Kd.R_alloc | apply Kd.R_drewN | apply Kd.R_drew)); exact Kd.R_mono HO380.out (fun _ hk => trivial)⟩, ⟨blk_up BK358.out⟩, ⟨hs_⟩⟩
     ·
      rw [if_neg c18] at H
      have c18b0 : decide (x39_1 < (l0_3.length : Int)) = false := decide_eq_false c18
      clear c18
      obtain ⟨y381, hy381⟩ : ∃ y_ : List Int, y_ = (([(a0_4) % 256, (a0_5) % 256] : List Int)) := ⟨_, rfl⟩
      replace H : (if x3_1.length + y381.length < 140737488355328 then ((some (x3_1 ++ y381 : List Int)).bind fun y384 => ((impl_two.f a0_6).bind fun t387 => (if y384.length + t387.length < 140737488355328 then ((some (y384 ++ t387 : List Int)).bind fun y390 => ((impl_length_byte.f l0_7).bind fun t393 => ((impl_two.f t393).bind fun t394 => (if y390.length + t394.length < 140737488355328 then ((some (y390 ++ t394 : List Int)).bind fun y397 => (if y397.length + l0_7.length < 140737488355328 then ((some (y397 ++ l0_7 : List Int)).bind fun y400 => ((impl_length_byte.f y400).bind fun t403 => ((impl_two.f (wrap64 (t403 + 4))).bind fun t404 => (if t404.length + y400.length < 140737488355328 then ((some (t404 ++ y400 : List Int)).bind fun y407 => ((impl_sumOf.f k1 y407).bind fun t410 => ((impl_two.f t410).bind fun t411 => (if y407.length + t411.length < 140737488355328 then (some (y407 ++ t411)) else (none))))) else (none))))) else (none))) else (none))))) else (none)))) else (none)) = some r := by first | (rw [hy381]; with_reducible exact H) | (have H2_ := (Option.bind_some _ _).symm.trans H; rw [hy381]; with_reducible exact H2_) | (have H2_ := (Option.bind_some _ _).symm.trans H; with_reducible exact H2_) | with_reducible exact H | (rw [hy381]; exact H) | exact H
      have Ny381 := Aside0.mk hy381
      clear hy381
      by_cases c26 : x3_1.length + y381.length < 140737488355328
      case neg => rw [if_neg c26] at H; exact absurd H (by simp)
      rw [if_pos c26] at H
      have LMc26 := Aside0.mk c26
      clear c26
      obtain ⟨y384, hy384⟩ : ∃ y_ : List Int, y_ = (x3_1 ++ y381) := ⟨_, rfl⟩
      replace H : ((impl_two.f a0_6).bind fun t387 => (if y384.length + t387.length < 140737488355328 then ((some (y384 ++ t387 : List Int)).bind fun y390 => ((impl_length_byte.f l0_7).bind fun t393 => ((impl_two.f t393).bind fun t394 => (if y390.length + t394.length < 140737488355328 then ((some (y390 ++ t394 : List Int)).bind fun y397 => (if y397.length + l0_7.length < 140737488355328 then ((some (y397 ++ l0_7 : List Int)).bind fun y400 => ((impl_length_byte.f y400).bind fun t403 => ((impl_two.f (wrap64 (t403 + 4))).bind fun t404 => (if t404.length + y400.length < 140737488355328 then ((some (t404 ++ y400 : List Int)).bind fun y407 => ((impl_sumOf.f k1 y407).bind fun t410 => ((impl_two.f t410).bind fun t411 => (if y407.length + t411.length < 140737488355328 then (some (y407 ++ t411)) else (none))))) else (none))))) else (none))) else (none))))) else (none))) = some r := by first | (rw [hy384]; with_reducible exact H) | (have H2_ := (Option.bind_some _ _).symm.trans H; rw [hy384]; with_reducible exact H2_) | (have H2_ := (Option.bind_some _ _).symm.trans H; with_reducible exact H2_) | with_reducible exact H | (rw [hy384]; exact H) | exact H
      have Ny384 := Aside0.mk hy384
      clear hy384
      replace H := Option.bind_eq_some_iff.mp H
      obtain ⟨t387, A270, H⟩ := H
      (try dsimp only at H)
      have A27 := Aside0.mk A270
      clear A270
      by_cases c28 : y384.length + t387.length < 140737488355328
      case neg => rw [if_neg c28] at H; exact absurd H (by simp)
      rw [if_pos c28] at H
      have LMc28 := Aside0.mk c28
      clear c28
      obtain ⟨y390, hy390⟩ : ∃ y_ : List Int, y_ = (y384 ++ t387) := ⟨_, rfl⟩
      replace H : ((impl_length_byte.f l0_7).bind fun t393 => ((impl_two.f t393).bind fun t394 => (if y390.length + t394.length < 140737488355328 then ((some (y390 ++ t394 : List Int)).bind fun y397 => (if y397.length + l0_7.length < 140737488355328 then ((some (y397 ++ l0_7 : List Int)).bind fun y400 => ((impl_length_byte.f y400).bind fun t403 => ((impl_two.f (wrap64 (t403 + 4))).bind fun t404 => (if t404.length + y400.length < 140737488355328 then ((some (t404 ++ y400 : List Int)).bind fun y407 => ((impl_sumOf.f k1 y407).bind fun t410 => ((impl_two.f t410).bind fun t411 => (if y407.length + t411.length < 140737488355328 then (some (y407 ++ t411)) else (none))))) else (none))))) else (none))) else (none)))) = some r := by first | (rw [hy390]; with_reducible exact H) | (have H2_ := (Option.bind_some _ _).symm.trans H; rw [hy390]; with_reducible exact H2_) | (have H2_ := (Option.bind_some _ _).symm.trans H; with_reducible exact H2_) | with_reducible exact H | (rw [hy390]; exact H) | exact H
      have Ny390 := Aside0.mk hy390
      clear hy390
      replace H := Option.bind_eq_some_iff.mp H
      obtain ⟨t393, A290, H⟩ := H
      (try dsimp only at H)
      have A29 := Aside0.mk A290
      clear A290
      replace H := Option.bind_eq_some_iff.mp H
      obtain ⟨t394, A300, H⟩ := H
      (try dsimp only at H)
      have A30 := Aside0.mk A300
      clear A300
      by_cases c31 : y390.length + t394.length < 140737488355328
      case neg => rw [if_neg c31] at H; exact absurd H (by simp)
      rw [if_pos c31] at H
      have LMc31 := Aside0.mk c31
      clear c31
      obtain ⟨y397, hy397⟩ : ∃ y_ : List Int, y_ = (y390 ++ t394) := ⟨_, rfl⟩
      replace H : (if y397.length + l0_7.length < 140737488355328 then ((some (y397 ++ l0_7 : List Int)).bind fun y400 => ((impl_length_byte.f y400).bind fun t403 => ((impl_two.f (wrap64 (t403 + 4))).bind fun t404 => (if t404.length + y400.length < 140737488355328 then ((some (t404 ++ y400 : List Int)).bind fun y407 => ((impl_sumOf.f k1 y407).bind fun t410 => ((impl_two.f t410).bind fun t411 => (if y407.length + t411.length < 140737488355328 then (some (y407 ++ t411)) else (none))))) else (none))))) else (none)) = some r := by first | (rw [hy397]; with_reducible exact H) | (have H2_ := (Option.bind_some _ _).symm.trans H; rw [hy397]; with_reducible exact H2_) | (have H2_ := (Option.bind_some _ _).symm.trans H; with_reducible exact H2_) | with_reducible exact H | (rw [hy397]; exact H) | exact H
      have Ny397 := Aside0.mk hy397
      clear hy397
      by_cases c32 : y397.length + l0_7.length < 140737488355328
      case neg => rw [if_neg c32] at H; exact absurd H (by simp)
      rw [if_pos c32] at H
      have LMc32 := Aside0.mk c32
      clear c32
      obtain ⟨y400, hy400⟩ : ∃ y_ : List Int, y_ = (y397 ++ l0_7) := ⟨_, rfl⟩
      replace H : ((impl_length_byte.f y400).bind fun t403 => ((impl_two.f (wrap64 (t403 + 4))).bind fun t404 => (if t404.length + y400.length < 140737488355328 then ((some (t404 ++ y400 : List Int)).bind fun y407 => ((impl_sumOf.f k1 y407).bind fun t410 => ((impl_two.f t410).bind fun t411 => (if y407.length + t411.length < 140737488355328 then (some (y407 ++ t411)) else (none))))) else (none)))) = some r := by first | (rw [hy400]; with_reducible exact H) | (have H2_ := (Option.bind_some _ _).symm.trans H; rw [hy400]; with_reducible exact H2_) | (have H2_ := (Option.bind_some _ _).symm.trans H; with_reducible exact H2_) | with_reducible exact H | (rw [hy400]; exact H) | exact H
      have Ny400 := Aside0.mk hy400
      clear hy400
      replace H := Option.bind_eq_some_iff.mp H
      obtain ⟨t403, A330, H⟩ := H
      (try dsimp only at H)
      have A33 := Aside0.mk A330
      clear A330
      replace H := Option.bind_eq_some_iff.mp H
      obtain ⟨t404, A340, H⟩ := H
      (try dsimp only at H)
      have A34 := Aside0.mk A340
      clear A340
      by_cases c35 : t404.length + y400.length < 140737488355328
      case neg => rw [if_neg c35] at H; exact absurd H (by simp)
      rw [if_pos c35] at H
      have LMc35 := Aside0.mk c35
      clear c35
      obtain ⟨y407, hy407⟩ : ∃ y_ : List Int, y_ = (t404 ++ y400) := ⟨_, rfl⟩
      replace H : ((impl_sumOf.f k1 y407).bind fun t410 => ((impl_two.f t410).bind fun t411 => (if y407.length + t411.length < 140737488355328 then (some (y407 ++ t411)) else (none)))) = some r := by first | (rw [hy407]; with_reducible exact H) | (have H2_ := (Option.bind_some _ _).symm.trans H; rw [hy407]; with_reducible exact H2_) | (have H2_ := (Option.bind_some _ _).symm.trans H; with_reducible exact H2_) | with_reducible exact H | (rw [hy407]; exact H) | exact H
      have Ny407 := Aside0.mk hy407
      clear hy407
      replace H := Option.bind_eq_some_iff.mp H
      obtain ⟨t410, A360, H⟩ := H
      (try dsimp only at H)
      have A36 := Aside0.mk A360
      clear A360
      replace H := Option.bind_eq_some_iff.mp H
      obtain ⟨t411, A370, H⟩ := H
      (try dsimp only at H)
      have A37 := Aside0.mk A370
      clear A370
      by_cases c38 : y407.length + t411.length < 140737488355328
      case neg => rw [if_neg c38] at H; exact absurd H (by simp)
      rw [if_pos c38] at H
      have LMc38 := Aside0.mk c38
      clear c38
      obtain ⟨y414, hy414⟩ : ∃ y_ : List Int, y_ = (y407 ++ t411) := ⟨_, rfl⟩
      replace H : (some y414) = some r := by first | (rw [hy414]; with_reducible exact H) | (have H2_ := (Option.bind_some _ _).symm.trans H; rw [hy414]; with_reducible exact H2_) | (have H2_ := (Option.bind_some _ _).symm.trans H; with_reducible exact H2_) | with_reducible exact H | (rw [hy414]; exact H) | exact H
      have Ny414 := Aside0.mk hy414
      clear hy414
      obtain rfl := Option.some.inj H
      obtain ⟨_, _, _, _, _, _, _, _⟩ := blk_cells8 BK358.out
      obtain ⟨_, _, _, _, _, _, _, _⟩ := blk_frozen8 BK358.out
      try go_wp2_with (first | ((with_reducible refine gate_dst (N := 55) rfl ?_); refine Kd.R_lit (Kd.int .u8) _ 5 ?hg (N := 55) ?hd (xs := ([(a0_4) % 256, (a0_5) % 256] : List Int)) (inner := [.int .u8 ((a0_4) % 256), .int .u8 ((a0_5) % 256)]) (ok := fun _ => True) (okp := fun _ => True) ?hr ?hp (fun _ hk => hk) trivial (Below.refl _ _) (Nat.le_refl _) (by simp) ?_; (case hd => rfl); (case hg => rfl); (case hr => first | (go_simp; done) | (go_simp; rfl)); (case hp => exact (Reps.one (show Kd.M (Kd.int .u8) _ _ _ ((a0_4) % 256) [.int .u8 ((a0_4) % 256)] from rfl) (Reps.one (show Kd.M (Kd.int .u8) _ _ _ ((a0_5) % 256) [.int .u8 ((a0_5) % 256)] from rfl) (Reps.none _ _)))); intro v382 w40 ho41 hb hg_ hnew_; clear hg_ hnew_; (first | rw [← Ny381.out] at ho41 | (simp only [Int.reduceToNat] at ho41; rw [← Ny381.out] at ho41)); have n0_ := Aside0.mk (Kd.R_elder' (R_up HO_3.out) (Kd.R_base ho41) hb); have n1_ := Aside0.mk (Kd.R_lower (Kd.R_new' ho41 (Kd.R_lt (R_up HO_3.out))) (below_size (HB_up HB.out))); have n2_ := Aside0.mk (blk_below (g := gb358) (blk_up BK358.out) hb); have n3_ := Aside0.mk (below_step (HB_up HB.out) hb); clear HO_3; clear BK358; clear HB; have HO_3 := n0_; have HO383 := n1_; have BK358 := n2_; have HB := n3_; clear n0_ n1_ n2_ n3_; clear hb ho41; obtain ⟨Ao43, co43, eo43⟩ := Kd.R_slice HO383.out; subst eo43) | ((with_reducible refine gate_builtin (b := .append) (xs := #[.tmp 48, .tmp 55]) rfl ?_); at_builtin; refine Kd.R_append_rows (Kd.int .u8) (w0 := w) w.heap.size rfl (.tmp 48) (.tmp 55) 24 5 (.int .u8 0) 1 rfl Try.underlying24 info5 rfl (by decide) (by omega) u3 x3_1 y381 _ _ _ (fun k_ => some k_ ≠ (.slice Ao43 y381.length co43 : Value).ownBlock) (fun _ => False) rfl rfl ?aO ?aR (fun _ _ h => h) (fun _ h => h.elim) ?aF ?aB ?aS ?aL ?_; (case aR => exact C_up (Kd.R_reads' HO383.out).2.2); (case aB => exact (HB_up HB.out)); (case aF => exact (fun k_ hk => Kd.fresh' (Kd.R_lt (R_up HO383.out)) k_ hk)); (case aO => exact (by (with_reducible repeat (first | apply Kd.R_alloc | apply Kd.R_drewN | apply Kd.R_drew)); exact Kd.R_mono HO_3.out (fun _ hk => hk.2))); (case aS => exact (below_size (HB_up HB.out))); (case aL => have := LMc26.out; omega); intro v385 w42 ho hb hg hat; rw [← Ny384.out] at ho; have n0_ := Aside0.mk (blk_grown (g := gb358) (blk_up BK358.out) hg (Kd.R_ne HO_3.out BK358.out (by decide))); have n1_ := Aside0.mk (Kd.R_after (ok := (fun _ => True)) (R_up HO383.out) hg hat); have n2_ := Aside0.mk (hb); have n3_ := Aside0.mk (ho); clear BK358; clear HO383; clear HB; clear HO_3; have BK358 := n0_; have HO383 := n1_; have HB := n2_; have HO386 := n3_; clear n0_ n1_ n2_ n3_; clear ho hb hg hat))
      replace HO383 := Aside0.mk (Kd.R_drew HO383.out)
      replace HO386 := Aside0.mk (Kd.R_drew HO386.out)
      replace BK358 := Aside0.mk (blk_drew BK358.out)
      replace HB := Aside0.mk (below_drew1 HB.out)
      refine start_ (n := 11) (S := fun w' => w'.cell? ⟨gb358, 0, none⟩ = some (.int .i64 a0_0) ∧ w'.cell? ⟨gb358, 1, none⟩ = some (.string a0_1) ∧ w'.cell? ⟨gb358, 2, none⟩ = some (.string a0_2) ∧ w'.cell? ⟨gb358, 3, none⟩ = some (.slice A0_3 l0_3.length c0_3) ∧ w'.cell? ⟨gb358, 4, none⟩ = some (.int .i64 a0_4) ∧ w'.cell? ⟨gb358, 5, none⟩ = some (.int .i64 a0_5) ∧ w'.cell? ⟨gb358, 6, none⟩ = some (.int .i64 a0_6) ∧ w'.cell? ⟨gb358, 7, none⟩ = some (.slice A0_7 l0_7.length c0_7)) (ds := []) #[false, false, false, false, false, false, false, false, false, false, false] (by kernel_rfl) rfl rfl ⟨(blk_cell BK358.out 0).trans rfl, (blk_cell BK358.out 1).trans rfl, (blk_cell BK358.out 2).trans rfl, (blk_cell BK358.out 3).trans rfl, (blk_cell BK358.out 4).trans rfl, (blk_cell BK358.out 5).trans rfl, (blk_cell BK358.out 6).trans rfl, (blk_cell BK358.out 7).trans rfl⟩ (fun hHeld => ?_); refine with_tabW impl_packed.tab11 impl_packed.bits11 (fun HT_ HW_ => ?_)
      generalize w42.drew = w44 at HO383 HO386 BK358 HB hHeld ⊢
      refine pu_ (i := 0) (N := some 57) (v := ?_) (a' := ?_) rfl rfl (any_of HT_.out (by kernel_rfl)) (fun _ _ _ h => h) (Or.inl ⟨by rfl, ?_⟩) ?_ ?_; rotate_left
      · intro w'; go_simp; all_goals (first | with_reducible rfl | (simp [Instr.field, go_sem]; rfl))
      rotate_left
      · simp only [Act.put, List.setIfInBounds_toArray, List.set_cons_zero, List.set_cons_succ, i64_w, i32_w]; rfl
      refine pu_ (i := 1) (N := some 58) (v := ?_) (a' := ?_) rfl rfl (any_of HT_.out (by kernel_rfl)) (fun _ _ _ h => h) (Or.inl ⟨by rfl, ?_⟩) ?_ ?_; rotate_left
      · intro w'; go_simp; all_goals (first | with_reducible rfl | (simp [Instr.field, go_sem]; rfl))
      rotate_left
      · simp only [Act.put, List.setIfInBounds_toArray, List.set_cons_zero, List.set_cons_succ, i64_w, i32_w]; rfl
      refine pu_ (i := 5) (N := some 62) (v := ?_) (a' := ?_) rfl rfl (any_of HT_.out (by kernel_rfl)) (fun _ _ _ h => h) (Or.inl ⟨by rfl, ?_⟩) ?_ ?_; rotate_left
      · intro w'; go_simp; all_goals (first | with_reducible rfl | (simp [Instr.field, go_sem]; rfl))
      rotate_left
      · simp only [Act.put, List.setIfInBounds_toArray, List.set_cons_zero, List.set_cons_succ, i64_w, i32_w]; rfl
      refine ta_ (i := 2) (N := some 59) (v := ?_) (a' := ?_) rfl rfl (take_ofW HT_.out HW_.out (by kernel_rfl)) (fun _ _ _ h => h) (Or.inl ⟨by rfl, ?_⟩) hHeld ?_ ?_; rotate_left
      · rintro w' ⟨s0, s1, s2, s3, s4, s5, s6, s7⟩; go_simp; all_goals (first | with_reducible rfl | (simp [Instr.field, go_sem]; rfl))
      rotate_left
      · simp only [Act.put, List.setIfInBounds_toArray, List.set_cons_zero, List.set_cons_succ, i64_w, i32_w]; rfl
      refine ta_ (i := 6) (N := some 63) (v := ?_) (a' := ?_) rfl rfl (take_ofW HT_.out HW_.out (by kernel_rfl)) (fun _ _ _ h => h) (Or.inl ⟨by rfl, ?_⟩) hHeld ?_ ?_; rotate_left
      · rintro w' ⟨s0, s1, s2, s3, s4, s5, s6, s7⟩; go_simp; all_goals (first | with_reducible rfl | (simp [Instr.field, go_sem]; rfl))
      rotate_left
      · simp only [Act.put, List.setIfInBounds_toArray, List.set_cons_zero, List.set_cons_succ, i64_w, i32_w]; rfl
      refine on_ (i := 3) (N := some 60) rfl rfl (one_of HT_.out (by kernel_rfl)) (by decide) (fun K hK => ?_)
      refine goes_ Try.func96 (by kernel_rfl) rfl #[.int .i64 a0_6] (by rfl) rfl rfl (by (try simp only [List.map_toArray, List.map_cons, List.map_nil]); first | done | rfl | (simp only [List.length_drop, List.length_take]; rfl)) ?_
      with_reducible refine (impl_two.calls a0_6 t387 _ A27.out).mono ?_
      rintro e w45 ⟨v388, rfl, ho0, hb⟩
      refine ⟨_, rfl, ?_⟩
      have n0_ := Aside0.mk (Kd.R_elder' (R_up HO383.out) (Kd.R_base ho0) hb)
      have n1_ := Aside0.mk (Kd.R_elder' (R_up HO386.out) (Kd.R_base ho0) hb)
      have n2_ := Aside0.mk (Kd.R_lower (Kd.R_new' (Kd.R_new' ho0 (Kd.R_lt (R_up HO383.out))) (Kd.R_lt (R_up HO386.out))) (below_size (HB_up HB.out)))
      have n3_ := Aside0.mk (blk_below (g := gb358) (blk_up BK358.out) hb)
      have n4_ := Aside0.mk (below_step (HB_up HB.out) hb)
      clear HO383
      clear HO386
      clear BK358
      clear HB
      have HO383 := n0_
      have HO386 := n1_
      have HO389 := n2_
      have BK358 := n3_
      have HB := n4_
      clear n0_ n1_ n2_ n3_ n4_
      (try clear hb)
      (try clear hb2)
      (try clear hk)
      (try clear hi)
      (try clear ho0)
      obtain ⟨Ao47, co47, eo47⟩ := Kd.R_slice HO389.out
      (first | subst eo47 | (injection eo47 with f1_ f2_ f3_; have f4_ := f1_.symm; have f5_ := f3_.symm; clear f1_ f2_ f3_; subst f4_; subst f5_))
      refine hK.out _ _ ⟨(blk_cell BK358.out 0).trans rfl, (blk_cell BK358.out 1).trans rfl, (blk_cell BK358.out 2).trans rfl, (blk_cell BK358.out 3).trans rfl, (blk_cell BK358.out 4).trans rfl, (blk_cell BK358.out 5).trans rfl, (blk_cell BK358.out 6).trans rfl, (blk_cell BK358.out 7).trans rfl⟩ (fun hHeld => ?_)
      clear hK K
      refine norm_ (a' := ?_) ?_ ?_
      rotate_left
      · show Act.put _ (some 60) _ = _
        simp only [Act.put, List.setIfInBounds_toArray, List.set_cons_zero, List.set_cons_succ, i64_w, i32_w]
        rfl
      refine on_ (i := 4) (N := some 61) rfl rfl (one_of HT_.out (by kernel_rfl)) (by decide) (fun K hK => ?_)
      refine Kd.R_append_rows_step (Kd.int .u8) (w0 := w) w.heap.size (by rfl) (.tmp 57) (.tmp 60) 24 5 (.int .u8 0) 1 rfl Try.underlying24 info5 rfl (by decide) (by omega) v385 y384 t387 _ _ _ (fun k_ => some k_ ≠ (.slice Ao43 y381.length co43 : Value).ownBlock ∧ some k_ ≠ (.slice Ao47 t387.length co47 : Value).ownBlock) (fun _ => False) rfl rfl ?aO ?aR (fun _ _ h => h) (fun _ h => h.elim) ?aF ?aB ?aS ?aL ?_
      (case aR => exact C_up (Kd.R_reads' HO389.out).2.2)
      (case aB => exact (HB_up HB.out))
      (case aF => exact (fun k_ hk => ⟨Kd.fresh' (Kd.R_lt (R_up HO383.out)) k_ hk, Kd.fresh' (Kd.R_lt (R_up HO389.out)) k_ hk⟩))
      (case aO => exact (R_up HO386.out))
      (case aS => exact (below_size (HB_up HB.out)))
      (case aL => have := LMc28.out; omega)
      intro v391 w46 ho hb hg hat
      rw [← Ny390.out] at ho
      have n0_ := Aside0.mk (blk_grown (g := gb358) (blk_up BK358.out) hg (Kd.R_ne HO386.out BK358.out (by decide)))
      have n1_ := Aside0.mk (Kd.R_after (ok := (fun k_ => some k_ ≠ (.slice Ao47 t387.length co47 : Value).ownBlock)) (by (with_reducible repeat (first | apply Kd.R_alloc | apply Kd.R_drewN | apply Kd.R_drew)); exact Kd.R_mono HO383.out (fun _ hk => ⟨hk.2, hk.1.2⟩)) hg hat)
      have n2_ := Aside0.mk (Kd.R_after (ok := (fun k_ => some k_ ≠ (.slice Ao43 y381.length co43 : Value).ownBlock)) (by (with_reducible repeat (first | apply Kd.R_alloc | apply Kd.R_drewN | apply Kd.R_drew)); exact Kd.R_mono HO389.out (fun _ hk => ⟨hk.1.2, hk.2⟩)) hg hat)
      have n3_ := Aside0.mk (hb)
      have n4_ := Aside0.mk (ho)
      clear BK358
      clear HO383
      clear HO389
      clear HB
      clear HO386
      have BK358 := n0_
      have HO383 := n1_
      have HO389 := n2_
      have HB := n3_
      have HO392 := n4_
      clear n0_ n1_ n2_ n3_ n4_
      clear ho hb hg hat
      refine hK.out _ _ ⟨(blk_cell BK358.out 0).trans rfl, (blk_cell BK358.out 1).trans rfl, (blk_cell BK358.out 2).trans rfl, (blk_cell BK358.out 3).trans rfl, (blk_cell BK358.out 4).trans rfl, (blk_cell BK358.out 5).trans rfl, (blk_cell BK358.out 6).trans rfl, (blk_cell BK358.out 7).trans rfl⟩ (fun hHeld => ?_)
      clear hK K
      refine norm_ (a' := ?_) ?_ ?_
      rotate_left
      · show Act.put _ (some 61) _ = _
        simp only [Act.put, List.setIfInBounds_toArray, List.set_cons_zero, List.set_cons_succ, i64_w, i32_w]
        rfl
      refine on_ (i := 7) (N := some 64) rfl rfl (one_of HT_.out (by kernel_rfl)) (by decide) (fun K hK => ?_)
      refine goes_ Try.func88 (by kernel_rfl) rfl #[.slice A0_7 l0_7.length c0_7] (by rfl) rfl rfl (by (try simp only [List.map_toArray, List.map_cons, List.map_nil]); first | done | rfl | (simp only [List.length_drop, List.length_take]; rfl)) ?_
      with_reducible refine (impl_length_byte.calls _ _ l0_7 t393 _ ?side1 ?side2 A29.out).mono ?_
      (case side1 => exact C_up (Kd.C_below HR0_7.out HB.out))
      (case side2 => exact HC0_7.out)
      rintro e w' ⟨rfl, ⟨nd, rfl⟩⟩
      refine ⟨_, rfl, ?_⟩
      refine hK.out _ _ ⟨(blk_cell BK358.out 0).trans rfl, (blk_cell BK358.out 1).trans rfl, (blk_cell BK358.out 2).trans rfl, (blk_cell BK358.out 3).trans rfl, (blk_cell BK358.out 4).trans rfl, (blk_cell BK358.out 5).trans rfl, (blk_cell BK358.out 6).trans rfl, (blk_cell BK358.out 7).trans rfl⟩ (fun hHeld => ?_)
      clear hK K
      refine norm_ (a' := ?_) ?_ ?_
      rotate_left
      · show Act.put _ (some 64) _ = _
        simp only [Act.put, List.setIfInBounds_toArray, List.set_cons_zero, List.set_cons_succ, i64_w, i32_w]
        rfl
      refine on_ (i := 8) (N := some 65) rfl rfl (one_of HT_.out (by kernel_rfl)) (by decide) (fun K hK => ?_)
      refine goes_ Try.func96 (by kernel_rfl) rfl #[.int .i64 t393] (by rfl) rfl rfl (by (try simp only [List.map_toArray, List.map_cons, List.map_nil]); first | done | rfl | (simp only [List.length_drop, List.length_take]; rfl)) ?_
      with_reducible refine (impl_two.calls t393 t394 _ A30.out).mono ?_
      rintro e w48 ⟨v395, rfl, ho0, hb⟩
      refine ⟨_, rfl, ?_⟩
      have n0_ := Aside0.mk (Kd.R_elder' (R_up HO383.out) (Kd.R_base ho0) hb)
      have n1_ := Aside0.mk (Kd.R_elder' (R_up HO389.out) (Kd.R_base ho0) hb)
      have n2_ := Aside0.mk (Kd.R_elder' (R_up HO392.out) (Kd.R_base ho0) hb)
      have n3_ := Aside0.mk (Kd.R_lower (Kd.R_new' (Kd.R_new' (Kd.R_new' ho0 (Kd.R_lt (R_up HO383.out))) (Kd.R_lt (R_up HO389.out))) (Kd.R_lt (R_up HO392.out))) (below_size (HB_up HB.out)))
      have n4_ := Aside0.mk (blk_below (g := gb358) (blk_up BK358.out) hb)
      have n5_ := Aside0.mk (below_step (HB_up HB.out) hb)
      clear HO383
      clear HO389
      clear HO392
      clear BK358
      clear HB
      have HO383 := n0_
      have HO389 := n1_
      have HO392 := n2_
      have HO396 := n3_
      have BK358 := n4_
      have HB := n5_
      clear n0_ n1_ n2_ n3_ n4_ n5_
      (try clear hb)
      (try clear hb2)
      (try clear hk)
      (try clear hi)
      (try clear ho0)
      obtain ⟨Ao50, co50, eo50⟩ := Kd.R_slice HO396.out
      (first | subst eo50 | (injection eo50 with f1_ f2_ f3_; have f4_ := f1_.symm; have f5_ := f3_.symm; clear f1_ f2_ f3_; subst f4_; subst f5_))
      refine hK.out _ _ ⟨(blk_cell BK358.out 0).trans rfl, (blk_cell BK358.out 1).trans rfl, (blk_cell BK358.out 2).trans rfl, (blk_cell BK358.out 3).trans rfl, (blk_cell BK358.out 4).trans rfl, (blk_cell BK358.out 5).trans rfl, (blk_cell BK358.out 6).trans rfl, (blk_cell BK358.out 7).trans rfl⟩ (fun hHeld => ?_)
      clear hK K
      refine norm_ (a' := ?_) ?_ ?_
      rotate_left
      · show Act.put _ (some 65) _ = _
        simp only [Act.put, List.setIfInBounds_toArray, List.set_cons_zero, List.set_cons_succ, i64_w, i32_w]
        rfl
      refine on_ (i := 9) (N := some 66) rfl rfl (one_of HT_.out (by kernel_rfl)) (by decide) (fun K hK => ?_)
      refine Kd.R_append_rows_step (Kd.int .u8) (w0 := w) w.heap.size (by rfl) (.tmp 61) (.tmp 65) 24 5 (.int .u8 0) 1 rfl Try.underlying24 info5 rfl (by decide) (by omega) v391 y390 t394 _ _ _ (fun k_ => some k_ ≠ (.slice Ao43 y381.length co43 : Value).ownBlock ∧ some k_ ≠ (.slice Ao47 t387.length co47 : Value).ownBlock ∧ some k_ ≠ (.slice Ao50 t394.length co50 : Value).ownBlock) (fun _ => False) rfl rfl ?aO ?aR (fun _ _ h => h) (fun _ h => h.elim) ?aF ?aB ?aS ?aL ?_
      (case aR => exact C_up (Kd.R_reads' HO396.out).2.2)
      (case aB => exact (HB_up HB.out))
      (case aF => exact (fun k_ hk => ⟨Kd.fresh' (Kd.R_lt (R_up HO383.out)) k_ hk, Kd.fresh' (Kd.R_lt (R_up HO389.out)) k_ hk, Kd.fresh' (Kd.R_lt (R_up HO396.out)) k_ hk⟩))
      (case aO => exact (by (with_reducible repeat (first | apply Kd.R_alloc | apply Kd.R_drewN | apply Kd.R_drew)); exact Kd.R_mono HO392.out (fun _ hk => ⟨hk.1.1, ⟨hk.1.2, hk.2⟩⟩)))
      (case aS => exact (below_size (HB_up HB.out)))
      (case aL => have := LMc31.out; omega)
      intro v398 w49 ho hb hg hat
      rw [← Ny397.out] at ho
      have n0_ := Aside0.mk (blk_grown (g := gb358) (blk_up BK358.out) hg (Kd.R_ne HO392.out BK358.out (by decide)))
      have n1_ := Aside0.mk (Kd.R_after (ok := (fun k_ => some k_ ≠ (.slice Ao47 t387.length co47 : Value).ownBlock ∧ some k_ ≠ (.slice Ao50 t394.length co50 : Value).ownBlock)) (by (with_reducible repeat (first | apply Kd.R_alloc | apply Kd.R_drewN | apply Kd.R_drew)); exact Kd.R_mono HO383.out (fun _ hk => ⟨⟨hk.1.1, hk.2⟩, hk.1.2⟩)) hg hat)
      have n2_ := Aside0.mk (Kd.R_after (ok := (fun k_ => some k_ ≠ (.slice Ao43 y381.length co43 : Value).ownBlock ∧ some k_ ≠ (.slice Ao50 t394.length co50 : Value).ownBlock)) (by (with_reducible repeat (first | apply Kd.R_alloc | apply Kd.R_drewN | apply Kd.R_drew)); exact Kd.R_mono HO389.out (fun _ hk => ⟨⟨hk.1.1, hk.2⟩, hk.1.2⟩)) hg hat)
      have n3_ := Aside0.mk (Kd.R_after (ok := (fun k_ => some k_ ≠ (.slice Ao43 y381.length co43 : Value).ownBlock ∧ some k_ ≠ (.slice Ao47 t387.length co47 : Value).ownBlock)) (by (with_reducible repeat (first | apply Kd.R_alloc | apply Kd.R_drewN | apply Kd.R_drew)); exact Kd.R_mono HO396.out (fun _ hk => ⟨⟨hk.1.1.2, hk.1.2⟩, hk.2⟩)) hg hat)
      have n4_ := Aside0.mk (hb)
      have n5_ := Aside0.mk (ho)
      clear BK358
      clear HO383
      clear HO389
      clear HO396
      clear HB
      clear HO392
      have BK358 := n0_
      have HO383 := n1_
      have HO389 := n2_
      have HO396 := n3_
      have HB := n4_
      have HO399 := n5_
      clear n0_ n1_ n2_ n3_ n4_ n5_
      clear ho hb hg hat
      refine hK.out _ _ ⟨(blk_cell BK358.out 0).trans rfl, (blk_cell BK358.out 1).trans rfl, (blk_cell BK358.out 2).trans rfl, (blk_cell BK358.out 3).trans rfl, (blk_cell BK358.out 4).trans rfl, (blk_cell BK358.out 5).trans rfl, (blk_cell BK358.out 6).trans rfl, (blk_cell BK358.out 7).trans rfl⟩ (fun hHeld => ?_)
      clear hK K
      refine norm_ (a' := ?_) ?_ ?_
      rotate_left
      · show Act.put _ (some 66) _ = _
        simp only [Act.put, List.setIfInBounds_toArray, List.set_cons_zero, List.set_cons_succ, i64_w, i32_w]
        rfl
      refine pu_ (i := 10) (N := some 3) (v := ?_) (a' := ?_) rfl rfl (any_of HT_.out (by kernel_rfl)) (fun _ _ _ h => h) (Or.inl ⟨by rfl, ?_⟩) ?_ ?_; rotate_left
      · intro w'; go_simp; all_goals (first | with_reducible rfl | (simp [Instr.field, go_sem]; rfl))
      rotate_left
      · simp only [Act.put, List.setIfInBounds_toArray, List.set_cons_zero, List.set_cons_succ, i64_w, i32_w]; rfl
      refine done_ (done_of HT_.out (by kernel_rfl)) ?_
      obtain ⟨_, _, _, _, _, _, _, _⟩ := blk_cells8 BK358.out
      obtain ⟨_, _, _, _, _, _, _, _⟩ := blk_frozen8 BK358.out
      try go_wp2_with (first | ((with_reducible refine gate_builtin (b := .append) (xs := #[.tmp 67, .tmp 69]) rfl ?_); at_builtin; refine Kd.R_append_rows (Kd.int .u8) (w0 := w) w.heap.size rfl (.tmp 67) (.tmp 69) 24 5 (.int .u8 0) 1 rfl Try.underlying24 info5 rfl (by decide) (by omega) v398 y397 l0_7 _ _ _ (fun k_ => some k_ ≠ (.slice Ao43 y381.length co43 : Value).ownBlock ∧ some k_ ≠ (.slice Ao47 t387.length co47 : Value).ownBlock ∧ some k_ ≠ (.slice Ao50 t394.length co50 : Value).ownBlock) (fun _ => False) rfl rfl ?aO ?aR (fun _ _ h => h) (fun _ h => h.elim) ?aF ?aB ?aS ?aL ?_; (case aR => exact C_up (Kd.C_below HR0_7.out HB.out)); (case aB => exact (HB_up HB.out)); (case aF => exact (fun k_ hk => ⟨Kd.fresh' (Kd.R_lt (R_up HO383.out)) k_ hk, Kd.fresh' (Kd.R_lt (R_up HO389.out)) k_ hk, Kd.fresh' (Kd.R_lt (R_up HO396.out)) k_ hk⟩)); (case aO => exact (R_up HO399.out)); (case aS => exact (below_size (HB_up HB.out))); (case aL => have := LMc32.out; omega); intro v401 w52 ho hb hg hat; rw [← Ny400.out] at ho; have n0_ := Aside0.mk (blk_grown (g := gb358) (blk_up BK358.out) hg (Kd.R_ne HO399.out BK358.out (by decide))); have n1_ := Aside0.mk (Kd.R_after (ok := (fun k_ => some k_ ≠ (.slice Ao47 t387.length co47 : Value).ownBlock ∧ some k_ ≠ (.slice Ao50 t394.length co50 : Value).ownBlock)) (R_up HO383.out) hg hat); have n2_ := Aside0.mk (Kd.R_after (ok := (fun k_ => some k_ ≠ (.slice Ao43 y381.length co43 : Value).ownBlock ∧ some k_ ≠ (.slice Ao50 t394.length co50 : Value).ownBlock)) (R_up HO389.out) hg hat); have n3_ := Aside0.mk (Kd.R_after (ok := (fun k_ => some k_ ≠ (.slice Ao43 y381.length co43 : Value).ownBlock ∧ some k_ ≠ (.slice Ao47 t387.length co47 : Value).ownBlock)) (R_up HO396.out) hg hat); have n4_ := Aside0.mk (hb); have n5_ := Aside0.mk (ho); clear BK358; clear HO383; clear HO389; clear HO396; clear HB; clear HO399; have BK358 := n0_; have HO383 := n1_; have HO389 := n2_; have HO396 := n3_; have HB := n4_; have HO402 := n5_; clear n0_ n1_ n2_ n3_ n4_ n5_; clear ho hb hg hat; obtain ⟨Ao53, co53, eo53⟩ := Kd.R_slice HO402.out; subst eo53) | ((with_reducible refine gate_callee (f := 88) rfl ?_); refine goesY_ (some 72) Try.func88 #[.slice Ao53 y400.length co53] rfl ?_; (with_reducible refine (impl_length_byte.calls _ _ y400 t403 _ ?_ ?_ A33.out).mono ?_); exact C_up (Kd.R_reads' HO402.out).2.2; exact (Kd.R_reads' HO402.out).2.1; rintro e w' ⟨rfl, ⟨nd, rfl⟩⟩; refine ⟨_, rfl, ?_⟩) | ((with_reducible refine gate_callee (f := 96) rfl ?_); refine goesY_ (some 74) Try.func96 #[.int .i64 (wrap64 (t403 + 4))] rfl ?_; (with_reducible refine (impl_two.calls (wrap64 (t403 + 4)) t404 _ A34.out).mono ?_); rintro e w54 ⟨v405, rfl, ho0, hb⟩; refine ⟨_, rfl, ?_⟩; have n0_ := Aside0.mk (Kd.R_elder' (R_up HO383.out) (Kd.R_base ho0) hb); have n1_ := Aside0.mk (Kd.R_elder' (R_up HO389.out) (Kd.R_base ho0) hb); have n2_ := Aside0.mk (Kd.R_elder' (R_up HO396.out) (Kd.R_base ho0) hb); have n3_ := Aside0.mk (Kd.R_elder' (R_up HO402.out) (Kd.R_base ho0) hb); have n4_ := Aside0.mk (Kd.R_lower (Kd.R_new' (Kd.R_new' (Kd.R_new' (Kd.R_new' ho0 (Kd.R_lt (R_up HO383.out))) (Kd.R_lt (R_up HO389.out))) (Kd.R_lt (R_up HO396.out))) (Kd.R_lt (R_up HO402.out))) (below_size (HB_up HB.out))); have n5_ := Aside0.mk (blk_below (g := gb358) (blk_up BK358.out) hb); have n6_ := Aside0.mk (below_step (HB_up HB.out) hb); clear HO383; clear HO389; clear HO396; clear HO402; clear BK358; clear HB; have HO383 := n0_; have HO389 := n1_; have HO396 := n2_; have HO402 := n3_; have HO406 := n4_; have BK358 := n5_; have HB := n6_; clear n0_ n1_ n2_ n3_ n4_ n5_ n6_; (try clear hb); (try clear hb2); (try clear hk); (try clear hi); (try clear ho0)) | ((with_reducible refine gate_builtin (b := .append) (xs := #[.tmp 74, .tmp 75]) rfl ?_); at_builtin; refine Kd.R_append_rows (Kd.int .u8) (w0 := w) w.heap.size rfl (.tmp 74) (.tmp 75) 24 5 (.int .u8 0) 1 rfl Try.underlying24 info5 rfl (by decide) (by omega) v405 t404 y400 _ _ _ (fun k_ => some k_ ≠ (.slice Ao43 y381.length co43 : Value).ownBlock ∧ some k_ ≠ (.slice Ao47 t387.length co47 : Value).ownBlock ∧ some k_ ≠ (.slice Ao50 t394.length co50 : Value).ownBlock ∧ some k_ ≠ (.slice Ao53 y400.length co53 : Value).ownBlock) (fun _ => False) rfl rfl ?aO ?aR (fun _ _ h => h) (fun _ h => h.elim) ?aF ?aB ?aS ?aL ?_; (case aR => exact C_up (Kd.R_reads' HO402.out).2.2); (case aB => exact (HB_up HB.out)); (case aF => exact (fun k_ hk => ⟨Kd.fresh' (Kd.R_lt (R_up HO383.out)) k_ hk, Kd.fresh' (Kd.R_lt (R_up HO389.out)) k_ hk, Kd.fresh' (Kd.R_lt (R_up HO396.out)) k_ hk, Kd.fresh' (Kd.R_lt (R_up HO402.out)) k_ hk⟩)); (case aO => exact (by (with_reducible repeat (first | apply Kd.R_alloc | apply Kd.R_drewN | apply Kd.R_drew)); exact Kd.R_mono HO406.out (fun _ hk => ⟨hk.1.1.1.2, ⟨hk.1.1.2, ⟨hk.1.2, hk.2⟩⟩⟩))); (case aS => exact (below_size (HB_up HB.out))); (case aL => have := LMc35.out; omega); intro v408 w55 ho hb hg hat; rw [← Ny407.out] at ho; have n0_ := Aside0.mk (blk_grown (g := gb358) (blk_up BK358.out) hg (Kd.R_ne HO406.out BK358.out (by decide))); have n1_ := Aside0.mk (Kd.R_after (ok := (fun k_ => some k_ ≠ (.slice Ao47 t387.length co47 : Value).ownBlock ∧ some k_ ≠ (.slice Ao50 t394.length co50 : Value).ownBlock ∧ some k_ ≠ (.slice Ao53 y400.length co53 : Value).ownBlock)) (by (with_reducible repeat (first | apply Kd.R_alloc | apply Kd.R_drewN | apply Kd.R_drew)); exact Kd.R_mono HO383.out (fun _ hk => ⟨⟨hk.1.1.1, ⟨hk.1.1.2, hk.1.2⟩⟩, hk.2⟩)) hg hat); have n2_ := Aside0.mk (Kd.R_after (ok := (fun k_ => some k_ ≠ (.slice Ao43 y381.length co43 : Value).ownBlock ∧ some k_ ≠ (.slice Ao50 t394.length co50 : Value).ownBlock ∧ some k_ ≠ (.slice Ao53 y400.length co53 : Value).ownBlock)) (by (with_reducible repeat (first | apply Kd.R_alloc | apply Kd.R_drewN | apply Kd.R_drew)); exact Kd.R_mono HO389.out (fun _ hk => ⟨⟨hk.1.1.1, ⟨hk.1.1.2, hk.1.2⟩⟩, hk.2⟩)) hg hat); have n3_ := Aside0.mk (Kd.R_after (ok := (fun k_ => some k_ ≠ (.slice Ao43 y381.length co43 : Value).ownBlock ∧ some k_ ≠ (.slice Ao47 t387.length co47 : Value).ownBlock ∧ some k_ ≠ (.slice Ao53 y400.length co53 : Value).ownBlock)) (by (with_reducible repeat (first | apply Kd.R_alloc | apply Kd.R_drewN | apply Kd.R_drew)); exact Kd.R_mono HO396.out (fun _ hk => ⟨⟨hk.1.1.1, ⟨hk.1.1.2, hk.1.2⟩⟩, hk.2⟩)) hg hat); have n4_ := Aside0.mk (Kd.R_after (ok := (fun k_ => some k_ ≠ (.slice Ao43 y381.length co43 : Value).ownBlock ∧ some k_ ≠ (.slice Ao47 t387.length co47 : Value).ownBlock ∧ some k_ ≠ (.slice Ao50 t394.length co50 : Value).ownBlock)) (R_up HO402.out) hg hat); have n5_ := Aside0.mk (hb); have n6_ := Aside0.mk (ho); clear BK358; clear HO383; clear HO389; clear HO396; clear HO402; clear HB; clear HO406; have BK358 := n0_; have HO383 := n1_; have HO389 := n2_; have HO396 := n3_; have HO402 := n4_; have HB := n5_; have HO409 := n6_; clear n0_ n1_ n2_ n3_ n4_ n5_ n6_; clear ho hb hg hat; obtain ⟨Ao56, co56, eo56⟩ := Kd.R_slice HO409.out; subst eo56) | ((with_reducible refine gate_callee (f := 97) rfl ?_); refine goesY_ (some 79) Try.func97 #[.slice Ao56 y407.length co56] rfl ?_; (with_reducible refine (impl_sumOf.calls k1 _ _ y407 t410 _ ?_ ?_ A36.out).mono ?_); exact C_up (Kd.R_reads' HO409.out).2.2; exact (Kd.R_reads' HO409.out).2.1; rintro e w' ⟨rfl, ⟨nd, rfl⟩⟩; refine ⟨_, rfl, ?_⟩) | ((with_reducible refine gate_callee (f := 96) rfl ?_); refine goesY_ (some 80) Try.func96 #[.int .i64 t410] rfl ?_; (with_reducible refine (impl_two.calls t410 t411 _ A37.out).mono ?_); rintro e w57 ⟨v412, rfl, ho0, hb⟩; refine ⟨_, rfl, ?_⟩; have n0_ := Aside0.mk (Kd.R_elder' (R_up HO383.out) (Kd.R_base ho0) hb); have n1_ := Aside0.mk (Kd.R_elder' (R_up HO389.out) (Kd.R_base ho0) hb); have n2_ := Aside0.mk (Kd.R_elder' (R_up HO396.out) (Kd.R_base ho0) hb); have n3_ := Aside0.mk (Kd.R_elder' (R_up HO402.out) (Kd.R_base ho0) hb); have n4_ := Aside0.mk (Kd.R_elder' (R_up HO409.out) (Kd.R_base ho0) hb); have n5_ := Aside0.mk (Kd.R_lower (Kd.R_new' (Kd.R_new' (Kd.R_new' (Kd.R_new' (Kd.R_new' ho0 (Kd.R_lt (R_up HO383.out))) (Kd.R_lt (R_up HO389.out))) (Kd.R_lt (R_up HO396.out))) (Kd.R_lt (R_up HO402.out))) (Kd.R_lt (R_up HO409.out))) (below_size (HB_up HB.out))); have n6_ := Aside0.mk (blk_below (g := gb358) (blk_up BK358.out) hb); have n7_ := Aside0.mk (below_step (HB_up HB.out) hb); clear HO383; clear HO389; clear HO396; clear HO402; clear HO409; clear BK358; clear HB; have HO383 := n0_; have HO389 := n1_; have HO396 := n2_; have HO402 := n3_; have HO409 := n4_; have HO413 := n5_; have BK358 := n6_; have HB := n7_; clear n0_ n1_ n2_ n3_ n4_ n5_ n6_ n7_; (try clear hb); (try clear hb2); (try clear hk); (try clear hi); (try clear ho0); obtain ⟨Ao59, co59, eo59⟩ := Kd.R_slice HO413.out; subst eo59) | ((with_reducible refine gate_builtin (b := .append) (xs := #[.tmp 77, .tmp 80]) rfl ?_); at_builtin; refine Kd.R_append_rows (Kd.int .u8) (w0 := w) w.heap.size rfl (.tmp 77) (.tmp 80) 24 5 (.int .u8 0) 1 rfl Try.underlying24 info5 rfl (by decide) (by omega) (.slice Ao56 y407.length co56) y407 t411 _ _ _ (fun k_ => some k_ ≠ (.slice Ao43 y381.length co43 : Value).ownBlock ∧ some k_ ≠ (.slice Ao47 t387.length co47 : Value).ownBlock ∧ some k_ ≠ (.slice Ao50 t394.length co50 : Value).ownBlock ∧ some k_ ≠ (.slice Ao53 y400.length co53 : Value).ownBlock ∧ some k_ ≠ (.slice Ao59 t411.length co59 : Value).ownBlock) (fun _ => False) rfl rfl ?aO ?aR (fun _ _ h => h) (fun _ h => h.elim) ?aF ?aB ?aS ?aL ?_; (case aR => exact C_up (Kd.R_reads' HO413.out).2.2); (case aB => exact (HB_up HB.out)); (case aF => exact (fun k_ hk => ⟨Kd.fresh' (Kd.R_lt (R_up HO383.out)) k_ hk, Kd.fresh' (Kd.R_lt (R_up HO389.out)) k_ hk, Kd.fresh' (Kd.R_lt (R_up HO396.out)) k_ hk, Kd.fresh' (Kd.R_lt (R_up HO402.out)) k_ hk, Kd.fresh' (Kd.R_lt (R_up HO413.out)) k_ hk⟩)); (case aO => exact (by (with_reducible repeat (first | apply Kd.R_alloc | apply Kd.R_drewN | apply Kd.R_drew)); exact Kd.R_mono HO409.out (fun _ hk => ⟨hk.1.1, ⟨hk.1.2.1, ⟨hk.1.2.2.1, ⟨hk.1.2.2.2, hk.2⟩⟩⟩⟩))); (case aS => exact (below_size (HB_up HB.out))); (case aL => have := LMc38.out; omega); intro v415 w58 ho hb hg hat; rw [← Ny414.out] at ho; have n0_ := Aside0.mk (blk_grown (g := gb358) (blk_up BK358.out) hg (Kd.R_ne HO409.out BK358.out (by decide))); have n1_ := Aside0.mk (Kd.R_after (ok := (fun k_ => some k_ ≠ (.slice Ao47 t387.length co47 : Value).ownBlock ∧ some k_ ≠ (.slice Ao50 t394.length co50 : Value).ownBlock ∧ some k_ ≠ (.slice Ao53 y400.length co53 : Value).ownBlock ∧ some k_ ≠ (.slice Ao59 t411.length co59 : Value).ownBlock)) (by (with_reducible repeat (first | apply Kd.R_alloc | apply Kd.R_drewN | apply Kd.R_drew)); exact Kd.R_mono HO383.out (fun _ hk => ⟨⟨hk.1.1.1, ⟨hk.1.1.2.1, ⟨hk.1.1.2.2, hk.2⟩⟩⟩, hk.1.2⟩)) hg hat); have n2_ := Aside0.mk (Kd.R_after (ok := (fun k_ => some k_ ≠ (.slice Ao43 y381.length co43 : Value).ownBlock ∧ some k_ ≠ (.slice Ao50 t394.length co50 : Value).ownBlock ∧ some k_ ≠ (.slice Ao53 y400.length co53 : Value).ownBlock ∧ some k_ ≠ (.slice Ao59 t411.length co59 : Value).ownBlock)) (by (with_reducible repeat (first | apply Kd.R_alloc | apply Kd.R_drewN | apply Kd.R_drew)); exact Kd.R_mono HO389.out (fun _ hk => ⟨⟨hk.1.1.1, ⟨hk.1.1.2.1, ⟨hk.1.1.2.2, hk.2⟩⟩⟩, hk.1.2⟩)) hg hat); have n3_ := Aside0.mk (Kd.R_after (ok := (fun k_ => some k_ ≠ (.slice Ao43 y381.length co43 : Value).ownBlock ∧ some k_ ≠ (.slice Ao47 t387.length co47 : Value).ownBlock ∧ some k_ ≠ (.slice Ao53 y400.length co53 : Value).ownBlock ∧ some k_ ≠ (.slice Ao59 t411.length co59 : Value).ownBlock)) (by (with_reducible repeat (first | apply Kd.R_alloc | apply Kd.R_drewN | apply Kd.R_drew)); exact Kd.R_mono HO396.out (fun _ hk => ⟨⟨hk.1.1.1, ⟨hk.1.1.2.1, ⟨hk.1.1.2.2, hk.2⟩⟩⟩, hk.1.2⟩)) hg hat); have n4_ := Aside0.mk (Kd.R_after (ok := (fun k_ => some k_ ≠ (.slice Ao43 y381.length co43 : Value).ownBlock ∧ some k_ ≠ (.slice Ao47 t387.length co47 : Value).ownBlock ∧ some k_ ≠ (.slice Ao50 t394.length co50 : Value).ownBlock ∧ some k_ ≠ (.slice Ao59 t411.length co59 : Value).ownBlock)) (by (with_reducible repeat (first | apply Kd.R_alloc | apply Kd.R_drewN | apply Kd.R_drew)); exact Kd.R_mono HO402.out (fun _ hk => ⟨⟨hk.1.1.1, ⟨hk.1.1.2.1, ⟨hk.1.1.2.2, hk.2⟩⟩⟩, hk.1.2⟩)) hg hat); have n5_ := Aside0.mk (Kd.R_after (ok := (fun k_ => some k_ ≠ (.slice Ao43 y381.length co43 : Value).ownBlock ∧ some k_ ≠ (.slice Ao47 t387.length co47 : Value).ownBlock ∧ some k_ ≠ (.slice Ao50 t394.length co50 : Value).ownBlock ∧ some k_ ≠ (.slice Ao53 y400.length co53 : Value).ownBlock)) (by (with_reducible repeat (first | apply Kd.R_alloc | apply Kd.R_drewN | apply Kd.R_drew)); exact Kd.R_mono HO413.out (fun _ hk => ⟨⟨hk.1.1.1.1.2, ⟨hk.1.1.1.2, ⟨hk.1.1.2, hk.1.2⟩⟩⟩, hk.2⟩)) hg hat); have n6_ := Aside0.mk (hb); have n7_ := Aside0.mk (ho); clear BK358; clear HO383; clear HO389; clear HO396; clear HO402; clear HO413; clear HB; clear HO409; have BK358 := n0_; have HO383 := n1_; have HO389 := n2_; have HO396 := n3_; have HO402 := n4_; have HO413 := n5_; have HB := n6_; have HO416 := n7_; clear n0_ n1_ n2_ n3_ n4_ n5_ n6_ n7_; clear ho hb hg hat))
      go_ret
      exact ⟨_, ve_, by (with_reducible repeat (first | apply Kd.R_alloc | apply Kd.R_drewN | apply Kd.R_drew)); exact Kd.R_mono HO416.out (fun _ hk => trivial), hs_⟩
 · rw [if_neg c2] at H
   exact absurd H (by simp)

/-- A state of type 99 at block g of W; what its slices lead to came in by w0. -/
def IsS99 (w0 W : World) (g : Nat) (f0 : List Int) (f1 : Bool) : Prop := ∃ A0 c0, W.heap[g]? = some (.cells #[.slice A0 f0.length c0, .bool f1] 99 (0, 0)) ∧ w0.heap.size ≤ g ∧ Kd.C (Kd.int .u8) w0 A0 f0.length f0 ∧ f0.length ≤ c0
theorem IsS99.grown {w0 W : World} {g : Nat} {f0 : List Int} {f1 : Bool} {W1 : World} {row : Option Nat} (h : IsS99 w0 W g f0 f1) (hw : W.grownBy W1 row) (hne : some g ≠ row) : IsS99 w0 W1 g f0 f1 := by
 obtain ⟨A0, c0, hb, hg, hr0, hq0⟩ := h
 exact ⟨A0, c0, blk_grown hb hw hne, hg, hr0, hq0⟩
theorem IsS99.own_neN {w0 W : World} {g : Nat} {f0 : List Int} {f1 : Bool} {α : Type} {d : Kd α} {e : Nat} {base : Nat} {ok : Nat → Prop} {v : Value} {xs : List α} (h : IsS99 w0 W g f0 f1) (ho : Kd.N d e W base ok v xs) (ht : e ≠ 99) : some g ≠ v.ownBlock := by
 obtain ⟨A0, c0, hb, hg, hr0, hq0⟩ := h
 exact Kd.N_ne ho hb ht
theorem IsS99.fresh {w0 W : World} {g : Nat} {f0 : List Int} {f1 : Bool} (h : IsS99 w0 W g f0 f1) : ∀ k, W.heap.size ≤ k → k ≠ g := by
 obtain ⟨A0, c0, hb, hg, hr0, hq0⟩ := h
 exact Kd.freshB hb
theorem IsS99.kept {w0 W : World} {g : Nat} {f0 : List Int} {f1 : Bool} {W1 : World} {S : Nat → Prop} (h : IsS99 w0 W g f0 f1) (hk : Kept W W1 S) (hne : ¬ S g) : IsS99 w0 W1 g f0 f1 := by
 obtain ⟨A0, c0, hb, hg, hr0, hq0⟩ := h
 exact ⟨A0, c0, blk_kept hb hk hne, hg, hr0, hq0⟩
theorem IsS99.below {w0 W : World} {g : Nat} {f0 : List Int} {f1 : Bool} {W1 : World} (h : IsS99 w0 W g f0 f1) (hw : Below W.heap.size W W1) : IsS99 w0 W1 g f0 f1 := h.grown (grown_of_below hw none) (by simp)
theorem IsS99.alloc {w0 W : World} {g : Nat} {f0 : List Int} {f1 : Bool} (h : IsS99 w0 W g f0 f1) (o : Obj) : IsS99 w0 (W.alloc o) g f0 f1 := h.below (below_alloc (Below.refl _ _) o)
theorem IsS99.drewN {w0 W : World} {g : Nat} {f0 : List Int} {f1 : Bool} (h : IsS99 w0 W g f0 f1) (m : Nat) : IsS99 w0 (W.drewN m) g f0 f1 := h
theorem IsS99.drew {w0 W : World} {g : Nat} {f0 : List Int} {f1 : Bool} (h : IsS99 w0 W g f0 f1) : IsS99 w0 W.drew g f0 f1 := h
theorem IsS99.at_ {w0 W : World} {g : Nat} {f0 : List Int} {f1 : Bool} {w' : World} {m : Nat} (hq : W.drewN m = w') (h : IsS99 w0 W g f0 f1) : IsS99 w0 w' g f0 f1 := by subst hq; exact IsS99.drewN h m
theorem IsS99.apart {w0 W : World} {g : Nat} {f0 : List Int} {f1 : Bool} {α : Type} {d : Kd α} {e : Nat} {base : Nat} {ok : Nat → Prop} {v : Value} {xs : List α} (h : IsS99 w0 W g f0 f1) (ho : d.R e W base ok v xs) (ht : ∀ q, q ∈ e :: d.E → q ≠ 99) : d.R e W base (fun k => ok k ∧ k ≠ g) v xs := by
 obtain ⟨A0, c0, hb, hg, hr0, hq0⟩ := h
 exact Kd.R_types ho hb ht
theorem IsS99.own_ne {w0 W : World} {g : Nat} {f0 : List Int} {f1 : Bool} {α : Type} {d : Kd α} {e : Nat} {base : Nat} {ok : Nat → Prop} {v : Value} {xs : List α} (h : IsS99 w0 W g f0 f1) (ho : d.R e W base ok v xs) (ht : e ≠ 99) : some g ≠ v.ownBlock := by
 obtain ⟨A0, c0, hb, hg, hr0, hq0⟩ := h
 exact Kd.R_ne ho hb ht
theorem IsS99.apartQ {w0 W : World} {g : Nat} {f0 : List Int} {f1 : Bool} {α : Type} {d : Kd α} {e : Nat} {base : Nat} {ok : Nat → Prop} {v : Value} {xs : List α} (h : IsS99 w0 W g f0 f1) (ho : d.Q e W base ok v xs) (ht : ∀ q, q ∈ e :: d.E → q ≠ 99) : d.Q e W base (fun k => ok k ∧ k ≠ g) v xs := by
 obtain ⟨A0, c0, hb, hg, hr0, hq0⟩ := h
 exact Kd.Q_types ho hb ht
theorem IsS99.own_neQ {w0 W : World} {g : Nat} {f0 : List Int} {f1 : Bool} {α : Type} {d : Kd α} {e : Nat} {base : Nat} {ok : Nat → Prop} {v : Value} {xs : List α} (h : IsS99 w0 W g f0 f1) (ho : d.Q e W base ok v xs) (ht : e ≠ 99) : some g ≠ v.ownBlock := by
 obtain ⟨A0, c0, hb, hg, hr0, hq0⟩ := h
 exact Kd.Q_ne ho hb ht
theorem IsS99.apartS {w0 W : World} {g : Nat} {f0 : List Int} {f1 : Bool} {α : Type} {d : Kd α} {e : Nat} {base : Nat} {ok : Nat → Prop} {v : Value} {xs : List α} (h : IsS99 w0 W g f0 f1) (ho : d.S e W base ok v xs) (ht : ∀ q, q ∈ e :: d.E → q ≠ 99) : d.S e W base (fun k => ok k ∧ k ≠ g) v xs := by
 obtain ⟨A0, c0, hb, hg, hr0, hq0⟩ := h
 exact Kd.S_types ho hb ht
theorem IsS99.own_neS {w0 W : World} {g : Nat} {f0 : List Int} {f1 : Bool} {α : Type} {d : Kd α} {e : Nat} {base : Nat} {ok : Nat → Prop} {v : Value} {xs : List α} (h : IsS99 w0 W g f0 f1) (ho : d.S e W base ok v xs) (ht : e ≠ 99) : some g ≠ v.ownBlock := by
 obtain ⟨A0, c0, hb, hg, hr0, hq0⟩ := h
 exact Kd.S_ne ho hb ht
theorem IsS99.lt {w0 W : World} {g : Nat} {f0 : List Int} {f1 : Bool} (h : IsS99 w0 W g f0 f1) : g < W.heap.size := by
 obtain ⟨A0, c0, hb, hg, hr0, hq0⟩ := h
 exact blk_lt hb
theorem IsS99.ge {w0 W : World} {g : Nat} {f0 : List Int} {f1 : Bool} (h : IsS99 w0 W g f0 f1) : w0.heap.size ≤ g := by
 obtain ⟨A0, c0, hb, hg, hr0, hq0⟩ := h
 exact hg
theorem IsS99.ne_blk {w0 W : World} {g : Nat} {f0 : List Int} {f1 : Bool} {a : Nat} {cs : Array Value} {t : TypeId} {fr : Nat × Nat} (h : IsS99 w0 W g f0 f1) (hb2 : W.heap[a]? = some (.cells cs t fr)) (ht : t ≠ 99) : g ≠ a := by
 obtain ⟨A0, c0, hb, hg, hr0, hq0⟩ := h
 rintro rfl
 rw [hb] at hb2
 injection hb2 with hb2
 injection hb2 with _ ht2
 exact ht ht2.symm
theorem IsS99.far {w0 W : World} {g : Nat} {f0 : List Int} {f1 : Bool} {p : Addr} (h : IsS99 w0 W g f0 f1) (hne : g ≠ p.block) (u : Value) : IsS99 w0 (W.setCell p u) g f0 f1 := by
 obtain ⟨A0, c0, hb, hg, hr0, hq0⟩ := h
 exact ⟨A0, c0, blk_far hb hne u, hg, hr0, hq0⟩
theorem cellS99_0 {W : World} {g : Nat} {A0 : Option Addr} {c0 : Nat} {f0 : List Int} {f1 : Bool} (h : W.heap[g]? = some (.cells #[.slice A0 f0.length c0, .bool f1] 99 (0, 0))) : W.cell? ⟨g, 0, none⟩ = some (.slice A0 f0.length c0) := (blk_cell h 0).trans rfl
theorem cellS99_1 {W : World} {g : Nat} {A0 : Option Addr} {c0 : Nat} {f0 : List Int} {f1 : Bool} (h : W.heap[g]? = some (.cells #[.slice A0 f0.length c0, .bool f1] 99 (0, 0))) : W.cell? ⟨g, 1, none⟩ = some (.bool f1) := (blk_cell h 1).trans rfl
theorem IsS99.set_1 {w0 W : World} {g : Nat} {f0 : List Int} {f1 : Bool} (h : IsS99 w0 W g f0 f1) (x : Bool) : IsS99 w0 (W.setCell ⟨g, 1, none⟩ (.bool x)) g f0 x := by
 obtain ⟨A0, c0, hb, hg, hr0, hq0⟩ := h
 exact ⟨A0, c0, by simpa using blk_set hb 1 (.bool x), hg, hr0, hq0⟩
theorem IsS99.sl_0 {w0 W : World} {g : Nat} {f0 : List Int} {f1 : Bool} (h : IsS99 w0 W g f0 f1) {A : Option Addr} {c : Nat} {x : List Int} (hr : Kd.C (Kd.int .u8) w0 A x.length x) (hq : x.length ≤ c) {n : Nat} (hn : x.length = n) : IsS99 w0 (W.setCell ⟨g, 0, none⟩ (.slice A n c)) g x f1 := by
 subst hn
 obtain ⟨A0, c0, hb, hg, hr0, hq0⟩ := h
 exact ⟨A, c, by simpa using blk_set hb 0 (.slice A x.length c), hg, hr, hq⟩
theorem IsS99.new (w0 W : World) (A0 : Option Addr) (c0 : Nat) (f0 : List Int) (f1 : Bool) (hB : Below w0.heap.size w0 W) (hr0 : Kd.C (Kd.int .u8) w0 A0 f0.length f0) (hq0 : f0.length ≤ c0) : IsS99 w0 (W.alloc (.cells #[.slice A0 f0.length c0, .bool f1] 99)) W.heap.size f0 f1 := ⟨A0, c0, by simpa using heap_alloc_new W _, hB.size, hr0, hq0⟩

/-! ### impl_taker_take: function 90 -/
def impl_taker_take.f (s0_0 : List Int) (s0_1 : Bool) (a1 : Int) : Option (List Int × List Int × Bool) := if 0 ≤ a1 ∧ a1 ≤ 100000 then (if s0_1 = true ∨ (s0_0.length : Int) < a1 then some (List.replicate a1.toNat 0, s0_0, true) else some (s0_0.take a1.toNat, s0_0.drop a1.toNat, false)) else none
set_option maxHeartbeats 8000000 in
set_option maxRecDepth 100000 in
theorem impl_taker_take.calls (g : Nat) (s0_0 : List Int) (s0_1 : Bool) (a1 : Int) (r1 : List Int) (r2 : List Int) (r3 : Bool) (w0 w : World) (hI : IsS99 w0 w g s0_0 s0_1) (hB : Below w0.heap.size w0 w) (h : impl_taker_take.f s0_0 s0_1 a1 = some (r1, r2, r3)) :
 Calls Try.prog 90 #[.pointer (some ⟨g, 0, none⟩), .int .i64 a1] w fun e w' => ∃ v0_ : Value, e = .returned (v0_) ∧ (∃ A c, v0_ = .slice A r1.length c ∧ Kd.C (Kd.int .u8) w' A r1.length r1 ∧ r1.length ≤ c) ∧ IsS99 w0 w' g r2 r3 ∧ Below w0.heap.size w0 w' ∧ KeepBut w w' g none := by
 unfold impl_taker_take.f at h
 by_cases hn : 0 ≤ a1 ∧ a1 ≤ 100000
 case neg => rw [if_neg hn] at h; exact absurd h (by simp)
 rw [if_pos hn] at h
 have HN0 := Aside0.mk hn.1
 have HN1 := Aside0.mk hn.2
 clear hn
 have HI := Aside0.mk hI
 have HB := Aside0.mk hB
 have HK := Aside0.mk (KeepBut.refl w g none)
 obtain ⟨A0, c0, hg0, hge, hr0, hq0⟩ := hI
 have hcz0 := cellS99_0 hg0
 have hcz1 := cellS99_1 hg0
 have hfz0 := blk_frozen hg0 0
 have hfz1 := blk_frozen hg0 1
 clear hg0 hge
 have HR0 := Aside0.mk hr0
 have HC0 := Aside0.mk hq0
 clear hr0 hq0 hB
 by_cases hc : s0_1 = true ∨ (s0_0.length : Int) < a1
 ·
  rw [if_pos hc] at h
  simp only [Option.some.injEq, Prod.mk.injEq] at h
  obtain ⟨rfl, rfl, rfl⟩ := h
  cases s0_1 with
  | true =>
    clear hc
    go_enter Try.func90, Try.ntmps90
    go_wp2_with (first | ((with_reducible refine gate_dst (N := 23) rfl ?_); refine Kd.R_make (Kd.int .u8) _ 5 rfl (N := 23) rfl 24 _ _ rfl a1 rfl rfl Try.underlying24 (.int .u8 0) 1 info5 rfl (by decide) (by omega) 0 (ok := fun _ => True) (okp := fun _ => True) rfl (fun _ hk => hk) trivial HN0.out (by have := HN0.out; have := HN1.out; omega) (Below.refl _ _) (Nat.le_refl _) ?_; intro v w1 ho hb hg_ hnew_; clear hg_ hnew_; obtain ⟨Ao, co, eo⟩ := Kd.R_slice ho; subst eo; have n0_ : Aside0 (IsS99 w0 w1 g s0_0 true) := ⟨IsS99.below (by repeat (first | exact HI.out | apply IsS99.set_1 | apply IsS99.drewN | apply IsS99.drew)) hb⟩; have n1_ : Aside0 (Below w0.heap.size w0 w1) := ⟨below_step (by repeat (first | exact HB.out | apply pw_below_drewN | apply below_drew1 | refine below_set ?_ (IsS99.ge HI.out))) hb⟩; have n2_ : Aside0 (KeepBut w w1 g none) := ⟨KeepBut.trans (by repeat (first | exact HK.out | apply KeepBut.set_ | apply keep_drewN | apply keep_drew)) (KeepBut.of_below hb g none) (.inl rfl)⟩; have n3_ := Aside0.mk (Kd.R_reads' ho).2.2; have n4_ := Aside0.mk (Kd.R_reads' ho).2.1; clear ho hb))
    go_ret
    exact ⟨_, rfl, ⟨Ao, co, by rw [List.length_replicate]; rfl, by simpa using n3_.out, by have := n4_.out; rw [List.length_replicate] at this ⊢; exact this⟩, n0_.out, n1_.out, n2_.out⟩
  | false =>
    have p0 : decide ((s0_0.length : Int) < a1) = true := decide_eq_true (hc.resolve_left (by decide))
    clear hc
    go_enter Try.func90, Try.ntmps90
    go_wp2_with (first | (go_at_call 88; (with_reducible refine (impl_length_byte.calls A0 c0 s0_0 (s0_0.length : Int) _ ?_ ?_ rfl).mono ?_); exact Kd.C_below HR0.out HB.out; exact HC0.out; rintro e w' ⟨rfl, ⟨nd, rfl⟩⟩) | ((with_reducible refine gate_dst (N := 23) rfl ?_); refine Kd.R_make (Kd.int .u8) _ 5 rfl (N := 23) rfl 24 _ _ rfl a1 rfl rfl Try.underlying24 (.int .u8 0) 1 info5 rfl (by decide) (by omega) 0 (ok := fun _ => True) (okp := fun _ => True) rfl (fun _ hk => hk) trivial HN0.out (by have := HN0.out; have := HN1.out; omega) (Below.refl _ _) (Nat.le_refl _) ?_; intro v w1 ho hb hg_ hnew_; clear hg_ hnew_; obtain ⟨Ao, co, eo⟩ := Kd.R_slice ho; subst eo; have n0_ : Aside0 (IsS99 w0 w1 g s0_0 true) := ⟨IsS99.below (by repeat (first | exact HI.out | apply IsS99.set_1 | apply IsS99.drewN | apply IsS99.drew)) hb⟩; have n1_ : Aside0 (Below w0.heap.size w0 w1) := ⟨below_step (by repeat (first | exact HB.out | apply pw_below_drewN | apply below_drew1 | refine below_set ?_ (IsS99.ge HI.out))) hb⟩; have n2_ : Aside0 (KeepBut w w1 g none) := ⟨KeepBut.trans (by repeat (first | exact HK.out | apply KeepBut.set_ | apply keep_drewN | apply keep_drew)) (KeepBut.of_below hb g none) (.inl rfl)⟩; have n3_ := Aside0.mk (Kd.R_reads' ho).2.2; have n4_ := Aside0.mk (Kd.R_reads' ho).2.1; clear ho hb))
    go_ret
    exact ⟨_, rfl, ⟨Ao, co, by rw [List.length_replicate]; rfl, by simpa using n3_.out, by have := n4_.out; rw [List.length_replicate] at this ⊢; exact this⟩, n0_.out, n1_.out, n2_.out⟩
 ·
  rw [if_neg hc] at h
  simp only [Option.some.injEq, Prod.mk.injEq] at h
  obtain ⟨rfl, rfl, rfl⟩ := h
  have hb0 : s0_1 = false := by cases s0_1 with | true => exact absurd (Or.inl rfl) hc | false => rfl
  subst hb0
  have hle : a1 ≤ (s0_0.length : Int) := Int.not_lt.1 (fun h_ => hc (.inr h_))
  have p0 : decide ((s0_0.length : Int) < a1) = false := decide_eq_false (Int.not_lt.2 hle)
  have HLE := Aside0.mk hle
  clear hc hle
  obtain ⟨i0, hi0, _, hsz, _⟩ := info_parts info5
  have hcut1 := cut_to (P := Try.prog) 24 5 .i64 Try.underlying24 hi0 A0 s0_0.length c0 a1 HN0.out HLE.out HC0.out
  have hcut2 := cut_from (P := Try.prog) 24 5 .i64 Try.underlying24 hi0 1 hsz A0 s0_0.length c0 a1 HN0.out HLE.out
  have hmn : a1.toNat ≤ s0_0.length := by have := HN0.out; have := HLE.out; omega
  have hr1 := Aside0.mk (Kd.C_take (m := a1.toNat) HR0.out hmn)
  have hr2 := Aside0.mk (Kd.C_drop (m := a1.toNat) (c := c0) HR0.out hmn HC0.out)
  have HMN := Aside0.mk hmn
  clear hi0 hsz hmn
  generalize hA1 : (if c0 = a1.toNat then A0 else A0.map (·.add (a1.toNat * 1))) = A1 at hcut2
  replace hr2 : Aside0 (Kd.C (Kd.int .u8) w0 A1 (s0_0.drop a1.toNat).length (s0_0.drop a1.toNat)) := by rw [← hA1]; exact hr2
  clear hA1
  go_enter Try.func90, Try.ntmps90
  go_wp2_with (first | (go_at_call 88; (with_reducible refine (impl_length_byte.calls A0 c0 s0_0 (s0_0.length : Int) _ ?_ ?_ rfl).mono ?_); exact Kd.C_below HR0.out HB.out; exact HC0.out; rintro e w' ⟨rfl, ⟨nd, rfl⟩⟩))
  go_ret
  have hI2 := fun (W : World) (hW : IsS99 w0 W g s0_0 false) => IsS99.sl_0 (c := c0 - a1.toNat) hW hr2.out (by rw [List.length_drop]; have := HC0.out; omega) (List.length_drop ..)
  refine ⟨_, rfl, ⟨A0, c0, by rw [List.length_take, Nat.min_eq_left HMN.out]; rfl, Kd.C_below hr1.out ?_, by rw [List.length_take]; have := HC0.out; omega⟩, hI2 _ (by repeat (first | exact HI.out | apply IsS99.drewN | apply IsS99.drew)), ?_, by repeat (first | exact HK.out | apply KeepBut.set_ | apply keep_drewN | apply keep_drew)⟩ <;> repeat (first | exact HB.out | apply pw_below_drewN | apply below_drew1 | refine below_set ?_ (IsS99.ge HI.out))

/-! ### impl_taker_two: function 87 -/
def impl_taker_two.f (s0_0 : List Int) (s0_1 : Bool) : Option (Int × List Int × Bool) := if s0_1 = true ∨ (s0_0.length : Int) < 2 then some (0, s0_0, true) else some (wrap64 ((wrap64 ((wrap64 (rd s0_0 0)) * 256)) + (wrap64 (rd s0_0 1))), s0_0.drop 2, false)
set_option maxHeartbeats 8000000 in
set_option maxRecDepth 100000 in
theorem impl_taker_two.calls (g : Nat) (s0_0 : List Int) (s0_1 : Bool) (r1 : Int) (r2 : List Int) (r3 : Bool) (w0 w : World) (hI : IsS99 w0 w g s0_0 s0_1) (hB : Below w0.heap.size w0 w) (h : impl_taker_two.f s0_0 s0_1 = some (r1, r2, r3)) :
 Calls Try.prog 87 #[.pointer (some ⟨g, 0, none⟩)] w fun e w' => e = .returned (.int .i64 r1) ∧ IsS99 w0 w' g r2 r3 ∧ Below w0.heap.size w0 w' ∧ KeepBut w w' g none := by
 have hT : ∃ l : List Int, l.length = 2 ∧ impl_taker_take.f s0_0 s0_1 2 = some (l, r2, r3) ∧ r1 = wrap64 ((wrap64 ((wrap64 (rd l 0)) * 256)) + (wrap64 (rd l 1))) := by
  unfold impl_taker_two.f at h
  unfold impl_taker_take.f
  rw [if_pos (show (0 : Int) ≤ 2 ∧ (2 : Int) ≤ 100000 by decide)]
  by_cases hc : s0_1 = true ∨ (s0_0.length : Int) < 2
  · rw [if_pos hc] at h ⊢
    simp only [Option.some.injEq, Prod.mk.injEq] at h
    obtain ⟨rfl, rfl, rfl⟩ := h
    exact ⟨_, List.length_replicate, rfl, by kernel_rfl⟩
  ·
   rw [if_neg hc] at h ⊢
   simp only [Option.some.injEq, Prod.mk.injEq] at h
   obtain ⟨rfl, rfl, rfl⟩ := h
   have hn : ¬ (s0_0.length : Int) < 2 := fun h_ => hc (.inr h_)
   refine ⟨_, ?_, rfl, ?_⟩
   · rw [List.length_take]; show min 2 _ = 2; omega
   · cases s0_0 with | nil => exact absurd (by decide) hn | cons a t => cases t with | nil => exact absurd (by simp) hn | cons b t => rfl
 clear h
 obtain ⟨l, hl, hT, rfl⟩ := hT
 have HT := Aside0.mk hT
 have HL := Aside0.mk hl
 have HI := Aside0.mk hI
 have HB := Aside0.mk hB
 clear hT hI hB hl
 go_enter Try.func87, Try.ntmps87
 go_wp2_with (first | ((with_reducible refine gate_callee (f := 90) rfl ?_); refine goesL_ (some 5) rfl rfl Try.func90 (by kernel_rfl) rfl #[.pointer (some ⟨g, 0, none⟩), .int .i64 2] rfl (by (try simp only [List.map_toArray, List.map_cons, List.map_nil]); first | done | rfl) ?_; refine (impl_taker_take.calls g s0_0 s0_1 2 l r2 r3 w0 _ HI.out HB.out HT.out).mono ?_; rintro e w1 ⟨vs, rfl, ⟨Aq, cq, es, hC, hc⟩, hi, hb, hk⟩; subst es; refine ⟨_, rfl, ?_⟩; rw [HL.out]; obtain ⟨ad0, ea0, hx0⟩ := Kd.at_int hC 0 (by omega) (by rw [HL.out]; decide); obtain ⟨ad1, ea1, hx1⟩ := Kd.at_int hC 1 (by omega) (by rw [HL.out]; decide); cases ea0; cases ea1; rw [show ((0 : Int)).toNat = 0 from rfl, Addr.add_zero'] at hx0; simp only [show (1 : Int).toNat = 1 from rfl, Nat.reduceMul, Nat.reduceEqDiff, Go.Addr.add, ↓reduceIte] at hx1; clear hC; have HI1 := Aside0.mk hi; have HB1 := Aside0.mk hb; have HK1 := Aside0.mk hk; clear hi hb hk))
 repeat (go_quiet (fail); try go_wp2)

 go_ret
 exact ⟨by first | rfl | (simp; done), by repeat (first | exact HI1.out | apply IsS99.drewN | apply IsS99.drew), by repeat (first | exact HB1.out | apply pw_below_drewN | apply below_drew1), by repeat (first | exact HK1.out | apply keep_drewN | apply keep_drew)⟩

/-! ### impl_taker_one: function 89 -/
def impl_taker_one.f (s0_0 : List Int) (s0_1 : Bool) : Option (Int × List Int × Bool) := if s0_1 = true ∨ (s0_0.length : Int) < 1 then some (0, s0_0, true) else some (wrap64 (rd s0_0 0), s0_0.drop 1, false)
set_option maxHeartbeats 8000000 in
set_option maxRecDepth 100000 in
theorem impl_taker_one.calls (g : Nat) (s0_0 : List Int) (s0_1 : Bool) (r1 : Int) (r2 : List Int) (r3 : Bool) (w0 w : World) (hI : IsS99 w0 w g s0_0 s0_1) (hB : Below w0.heap.size w0 w) (h : impl_taker_one.f s0_0 s0_1 = some (r1, r2, r3)) :
 Calls Try.prog 89 #[.pointer (some ⟨g, 0, none⟩)] w fun e w' => e = .returned (.int .i64 r1) ∧ IsS99 w0 w' g r2 r3 ∧ Below w0.heap.size w0 w' ∧ KeepBut w w' g none := by
 have hT : ∃ l : List Int, l.length = 1 ∧ impl_taker_take.f s0_0 s0_1 1 = some (l, r2, r3) ∧ r1 = wrap64 (rd l 0) := by
  unfold impl_taker_one.f at h
  unfold impl_taker_take.f
  rw [if_pos (show (0 : Int) ≤ 1 ∧ (1 : Int) ≤ 100000 by decide)]
  by_cases hc : s0_1 = true ∨ (s0_0.length : Int) < 1
  · rw [if_pos hc] at h ⊢
    simp only [Option.some.injEq, Prod.mk.injEq] at h
    obtain ⟨rfl, rfl, rfl⟩ := h
    exact ⟨_, List.length_replicate, rfl, by kernel_rfl⟩
  ·
   rw [if_neg hc] at h ⊢
   simp only [Option.some.injEq, Prod.mk.injEq] at h
   obtain ⟨rfl, rfl, rfl⟩ := h
   have hn : ¬ (s0_0.length : Int) < 1 := fun h_ => hc (.inr h_)
   refine ⟨_, ?_, rfl, ?_⟩
   · rw [List.length_take]; show min 1 _ = 1; omega
   · cases s0_0 with | nil => exact absurd (by decide) hn | cons a t => rfl
 clear h
 obtain ⟨l, hl, hT, rfl⟩ := hT
 have HT := Aside0.mk hT
 have HL := Aside0.mk hl
 have HI := Aside0.mk hI
 have HB := Aside0.mk hB
 clear hT hI hB hl
 go_enter Try.func89, Try.ntmps89
 go_wp2_with (first | ((with_reducible refine gate_callee (f := 90) rfl ?_); refine goesL_ (some 4) rfl rfl Try.func90 (by kernel_rfl) rfl #[.pointer (some ⟨g, 0, none⟩), .int .i64 1] rfl (by (try simp only [List.map_toArray, List.map_cons, List.map_nil]); first | done | rfl) ?_; refine (impl_taker_take.calls g s0_0 s0_1 1 l r2 r3 w0 _ HI.out HB.out HT.out).mono ?_; rintro e w1 ⟨vs, rfl, ⟨Aq, cq, es, hC, hc⟩, hi, hb, hk⟩; subst es; refine ⟨_, rfl, ?_⟩; rw [HL.out]; obtain ⟨ad0, ea0, hx0⟩ := Kd.at_int hC 0 (by omega) (by rw [HL.out]; decide); cases ea0; rw [show ((0 : Int)).toNat = 0 from rfl, Addr.add_zero'] at hx0; clear hC; have HI1 := Aside0.mk hi; have HB1 := Aside0.mk hb; have HK1 := Aside0.mk hk; clear hi hb hk))
 go_ret
 exact ⟨by first | rfl | (simp; done), by repeat (first | exact HI1.out | apply IsS99.drewN | apply IsS99.drew), by repeat (first | exact HB1.out | apply pw_below_drewN | apply below_drew1), by repeat (first | exact HK1.out | apply keep_drewN | apply keep_drew)⟩

/-! ### bytes_Equal: function 91 -/
def bytes_Equal.f (l0 : List Int) (l1 : List Int) : Option (Bool) := some ((strOfNums l0).toList == (strOfNums l1).toList)
set_option maxHeartbeats 8000000 in
set_option maxRecDepth 100000 in
theorem bytes_Equal.calls (A0 : Option Addr) (c0 : Nat) (l0 : List Int) (A1 : Option Addr) (c1 : Nat) (l1 : List Int) (r : Bool) (w : World) (hr0 : Kd.C (Kd.int .u8) w A0 l0.length l0) (hc0 : l0.length ≤ c0) (hr1 : Kd.C (Kd.int .u8) w A1 l1.length l1) (hc1 : l1.length ≤ c1) (h : bytes_Equal.f l0 l1 = some r) :
 Calls Try.prog 91 #[.slice A0 l0.length c0, .slice A1 l1.length c1] w fun e w' => e = .returned (.bool r) ∧ Drawn0 w w' := by
 have HR0 := Aside0.mk hr0
 have HC0 := Aside0.mk hc0
 clear hr0 hc0
 have HR1 := Aside0.mk hr1
 have HC1 := Aside0.mk hc1
 clear hr1 hc1
 have H : (some ((strOfNums l0).toList == (strOfNums l1).toList)) = some r := h
 clear h
 obtain rfl := Option.some.inj H
 have hcv3 := Kd.C_string (P := Try.prog) (A := A0) (c := c0) Try.underlying24 Try.underlying5 Try.underlying9 HR0.out
 have hcq4 := fun (nq_ : Nat) => Kd.C_string (P := Try.prog) (A := A0) (c := c0) Try.underlying24 Try.underlying5 Try.underlying9 (Kd.C_drewN HR0.out nq_)
 have hcv5 := Kd.C_string (P := Try.prog) (A := A1) (c := c1) Try.underlying24 Try.underlying5 Try.underlying9 HR1.out
 have hcq6 := fun (nq_ : Nat) => Kd.C_string (P := Try.prog) (A := A1) (c := c1) Try.underlying24 Try.underlying5 Try.underlying9 (Kd.C_drewN HR1.out nq_)
 go_enter Try.func91, Try.ntmps91
 go_wp2
 go_ret
 exact ⟨vl_, dr_⟩

end Go.Proofs.Ytehdbobpbcjmeaa.PFnExactReadJournal

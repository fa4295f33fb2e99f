/- Functions of the program as Lean functions, each with the proof that its call comes to what that function says (texts written by a program of this session). Conditions: those that stand in each theorem. -/
import Derived.Test.YtehdbobpbcjmeaaPFnExactReadOpx0
import Derived.Test.YtehdbobpbcjmeaaPFnExactReadOpx7
namespace Go.Proofs.Ytehdbobpbcjmeaa.PFnExactReadOp
open Go.RowKit Go.Proofs.YtehdbobpbcjmeaaW.PrintWords Go.Proofs.YtehdbobpbcjmeaaW.PrintLast Go.Proofs.YtehdbobpbcjmeaaW.PrintMore
attribute [local go_sem] max2_int min2_int max_two min_two max_three min_three max_four min_four   -- for this text's walks alone
set_option linter.unusedVariables false
set_option linter.unusedSimpArgs false

/-! ### impl_packed: function 61 -/
def impl_packed.l0 : Nat → List Int → List Int → Int → Int → Int → ByteArray → ByteArray → List Int → Int → Int → Int → List Int → Option (List Int)
 | 0, _, _, _, _, _, _, _, _, _, _, _, _ => none
 | k + 1, x3, x37, x38, x39, x329000, x329001, x329002, x329003, x329004, x329005, x329006, x329007 => if x39 < x38 then (if 0 ≤ x39 then (if x39 < (x37.length : Int) then ((impl_two.f (rd x37 x39)).bind fun t345 => (if x3.length + t345.length < 140737488355328 then (impl_packed.l0 k (x3 ++ t345) x37 x38 (wrap64 (x39 + 1)) x329000 x329001 x329002 x329003 x329004 x329005 x329006 x329007) else (none))) else (none)) else (none)) else ((some (([(x329004) % 256, (x329005) % 256] : List Int) : List Int)).bind fun y351 => (if x3.length + y351.length < 140737488355328 then ((some (x3 ++ y351 : List Int)).bind fun y354 => ((impl_two.f x329006).bind fun t357 => (if y354.length + t357.length < 140737488355328 then ((some (y354 ++ t357 : List Int)).bind fun y360 => ((impl_length_byte.f x329007).bind fun t363 => ((impl_two.f t363).bind fun t364 => (if y360.length + t364.length < 140737488355328 then ((some (y360 ++ t364 : List Int)).bind fun y367 => (if y367.length + x329007.length < 140737488355328 then ((some (y367 ++ x329007 : List Int)).bind fun y370 => ((impl_length_byte.f y370).bind fun t373 => ((impl_two.f (wrap64 (t373 + 4))).bind fun t374 => (if t374.length + y370.length < 140737488355328 then ((some (t374 ++ y370 : List Int)).bind fun y377 => ((impl_sumOf.f k y377).bind fun t380 => ((impl_two.f t380).bind fun t381 => (if y377.length + t381.length < 140737488355328 then (some (y377 ++ t381)) else (none))))) else (none))))) else (none))) else (none))))) else (none)))) else (none)))
def impl_packed.f (k : Nat) (a0_0 : Int) (a0_1 : ByteArray) (a0_2 : ByteArray) (l0_3 : List Int) (a0_4 : Int) (a0_5 : Int) (a0_6 : Int) (l0_7 : List Int) : Option (List Int) := (some (([(a0_0) % 256, ((a0_1.size : Int)) % 256] : List Int) : List Int)).bind fun y329 => (if y329.length + a0_1.size < 140737488355328 then ((some (y329 ++ bytesOf a0_1 : List Int)).bind fun y332 => (if y332.length < 140737488355328 then ((some (y332 ++ [((a0_2.size : Int)) % 256] : List Int)).bind fun y335 => (if y335.length + a0_2.size < 140737488355328 then ((some (y335 ++ bytesOf a0_2 : List Int)).bind fun y338 => (if y338.length < 140737488355328 then (impl_packed.l0 k (y338 ++ [((l0_3.length : Int)) % 256]) l0_3 (l0_3.length : Int) 0 a0_0 a0_1 a0_2 l0_3 a0_4 a0_5 a0_6 l0_7) else (none))) else (none))) else (none))) else (none))
def impl_packed.T3 : Bool × List (List Nat × List Nat) := (true, [([], []), ([], []), ([1], [1]), ([2], [2]), ([3], [3]), ([4], [4]), ([0, 5], [0, 5]), ([], []), ([7], [7]), ([6, 8, 6], [6, 8]), ([9, 9, 0, 1, 2, 3, 4, 5, 6, 7, 8, 9], [0, 9])])
def impl_packed.B3 : List Nat := [0, 0, 2, 6, 14, 30, 63, 0, 128, 511, 1023]
theorem impl_packed.tab3 : rtab .any (opsOf Try.f61 3) = impl_packed.T3 := by kernel_rfl
theorem impl_packed.bits3 : waitsOk impl_packed.T3.2 impl_packed.B3 = true := by kernel_rfl
def impl_packed.T11 : Bool × List (List Nat × List Nat) := (true, [([], []), ([], []), ([1], [1]), ([2], [2]), ([0, 3, 3], [0, 3]), ([], []), ([5], [5]), ([6, 4], [6]), ([7, 7], [7]), ([4, 8, 8], [4, 8]), ([9, 9, 0, 1, 2, 3, 4, 5, 6, 7, 8, 9], [0, 9])])
def impl_packed.B11 : List Nat := [0, 0, 2, 6, 15, 0, 32, 127, 255, 511, 1023]
theorem impl_packed.tab11 : rtab .any (opsOf Try.f61 11) = impl_packed.T11 := by kernel_rfl
theorem impl_packed.bits11 : waitsOk impl_packed.T11.2 impl_packed.B11 = true := by kernel_rfl
set_option maxHeartbeats 8000000 in
set_option maxRecDepth 100000 in
theorem impl_packed.calls (k : Nat) (a0_0 : Int) (a0_1 : ByteArray) (a0_2 : ByteArray) (A0_3 : Option Addr) (c0_3 : Nat) (l0_3 : List Int) (a0_4 : Int) (a0_5 : Int) (a0_6 : Int) (A0_7 : Option Addr) (c0_7 : Nat) (l0_7 : List Int) (r : List Int) (w : World) (hr0_3 : Kd.C (Kd.int .i64) w A0_3 l0_3.length l0_3) (hc0_3 : l0_3.length ≤ c0_3) (hr0_7 : Kd.C (Kd.int .u8) w A0_7 l0_7.length l0_7) (hc0_7 : l0_7.length ≤ c0_7) (h : impl_packed.f k a0_0 a0_1 a0_2 l0_3 a0_4 a0_5 a0_6 l0_7 = some r) :
 Calls Try.prog 61 #[.agg #[.int .i64 a0_0, .string a0_1, .string a0_2, .slice A0_3 l0_3.length c0_3, .int .i64 a0_4, .int .i64 a0_5, .int .i64 a0_6, .slice A0_7 l0_7.length c0_7]] w fun e w' => ∃ v0_ : Value, e = .returned (v0_) ∧ Kd.R (Kd.int .u8) 5 w' w.heap.size (fun _ => True) v0_ r ∧ Below w.heap.size w w' := by
 have hu37 := Try.underlying37
 have HR0_3 := Aside0.mk hr0_3
 have HC0_3 := Aside0.mk hc0_3
 clear hr0_3 hc0_3
 have HR0_7 := Aside0.mk hr0_7
 have HC0_7 := Aside0.mk hc0_7
 clear hr0_7 hc0_7
 have HB := Aside0.mk (Below.refl w.heap.size w)
 have H : ((some (([(a0_0) % 256, ((a0_1.size : Int)) % 256] : List Int) : List Int)).bind fun y329 => (if y329.length + a0_1.size < 140737488355328 then ((some (y329 ++ bytesOf a0_1 : List Int)).bind fun y332 => (if y332.length < 140737488355328 then ((some (y332 ++ [((a0_2.size : Int)) % 256] : List Int)).bind fun y335 => (if y335.length + a0_2.size < 140737488355328 then ((some (y335 ++ bytesOf a0_2 : List Int)).bind fun y338 => (if y338.length < 140737488355328 then (impl_packed.l0 k (y338 ++ [((l0_3.length : Int)) % 256]) l0_3 (l0_3.length : Int) 0 a0_0 a0_1 a0_2 l0_3 a0_4 a0_5 a0_6 l0_7) else (none))) else (none))) else (none))) else (none))) = some r := h
 clear h
 obtain ⟨y329, hy329⟩ : ∃ y_ : List Int, y_ = (([(a0_0) % 256, ((a0_1.size : Int)) % 256] : List Int)) := ⟨_, rfl⟩
 replace H : (if y329.length + a0_1.size < 140737488355328 then ((some (y329 ++ bytesOf a0_1 : List Int)).bind fun y332 => (if y332.length < 140737488355328 then ((some (y332 ++ [((a0_2.size : Int)) % 256] : List Int)).bind fun y335 => (if y335.length + a0_2.size < 140737488355328 then ((some (y335 ++ bytesOf a0_2 : List Int)).bind fun y338 => (if y338.length < 140737488355328 then (impl_packed.l0 k (y338 ++ [((l0_3.length : Int)) % 256]) l0_3 (l0_3.length : Int) 0 a0_0 a0_1 a0_2 l0_3 a0_4 a0_5 a0_6 l0_7) else (none))) else (none))) else (none))) else (none)) = some r := by first | (rw [hy329]; with_reducible exact H) | (have H2_ := (Option.bind_some _ _).symm.trans H; rw [hy329]; with_reducible exact H2_) | (have H2_ := (Option.bind_some _ _).symm.trans H; with_reducible exact H2_) | with_reducible exact H | (rw [hy329]; exact H) | exact H
 have Ny329 := Aside0.mk hy329
 clear hy329
 by_cases c2 : y329.length + a0_1.size < 140737488355328
 ·
  rw [if_pos c2] at H
  have LMc2 := Aside0.mk c2
  clear c2
  obtain ⟨y332, hy332⟩ : ∃ y_ : List Int, y_ = (y329 ++ bytesOf a0_1) := ⟨_, rfl⟩
  replace H : (if y332.length < 140737488355328 then ((some (y332 ++ [((a0_2.size : Int)) % 256] : List Int)).bind fun y335 => (if y335.length + a0_2.size < 140737488355328 then ((some (y335 ++ bytesOf a0_2 : List Int)).bind fun y338 => (if y338.length < 140737488355328 then (impl_packed.l0 k (y338 ++ [((l0_3.length : Int)) % 256]) l0_3 (l0_3.length : Int) 0 a0_0 a0_1 a0_2 l0_3 a0_4 a0_5 a0_6 l0_7) else (none))) else (none))) else (none)) = some r := by first | (rw [hy332]; with_reducible exact H) | (have H2_ := (Option.bind_some _ _).symm.trans H; rw [hy332]; with_reducible exact H2_) | (have H2_ := (Option.bind_some _ _).symm.trans H; with_reducible exact H2_) | with_reducible exact H | (rw [hy332]; exact H) | exact H
  have Ny332 := Aside0.mk hy332
  clear hy332
  by_cases c3 : y332.length < 140737488355328
  case neg => rw [if_neg c3] at H; exact absurd H (by simp)
  rw [if_pos c3] at H
  have LMc3 := Aside0.mk c3
  clear c3
  obtain ⟨y335, hy335⟩ : ∃ y_ : List Int, y_ = (y332 ++ [((a0_2.size : Int)) % 256]) := ⟨_, rfl⟩
  replace H : (if y335.length + a0_2.size < 140737488355328 then ((some (y335 ++ bytesOf a0_2 : List Int)).bind fun y338 => (if y338.length < 140737488355328 then (impl_packed.l0 k (y338 ++ [((l0_3.length : Int)) % 256]) l0_3 (l0_3.length : Int) 0 a0_0 a0_1 a0_2 l0_3 a0_4 a0_5 a0_6 l0_7) else (none))) else (none)) = some r := by first | (rw [hy335]; with_reducible exact H) | (have H2_ := (Option.bind_some _ _).symm.trans H; rw [hy335]; with_reducible exact H2_) | (have H2_ := (Option.bind_some _ _).symm.trans H; with_reducible exact H2_) | with_reducible exact H | (rw [hy335]; exact H) | exact H
  have Ny335 := Aside0.mk hy335
  clear hy335
  by_cases c4 : y335.length + a0_2.size < 140737488355328
  case neg => rw [if_neg c4] at H; exact absurd H (by simp)
  rw [if_pos c4] at H
  have LMc4 := Aside0.mk c4
  clear c4
  obtain ⟨y338, hy338⟩ : ∃ y_ : List Int, y_ = (y335 ++ bytesOf a0_2) := ⟨_, rfl⟩
  replace H : (if y338.length < 140737488355328 then (impl_packed.l0 k (y338 ++ [((l0_3.length : Int)) % 256]) l0_3 (l0_3.length : Int) 0 a0_0 a0_1 a0_2 l0_3 a0_4 a0_5 a0_6 l0_7) else (none)) = some r := by first | (rw [hy338]; with_reducible exact H) | (have H2_ := (Option.bind_some _ _).symm.trans H; rw [hy338]; with_reducible exact H2_) | (have H2_ := (Option.bind_some _ _).symm.trans H; with_reducible exact H2_) | with_reducible exact H | (rw [hy338]; exact H) | exact H
  have Ny338 := Aside0.mk hy338
  clear hy338
  by_cases c5 : y338.length < 140737488355328
  case neg => rw [if_neg c5] at H; exact absurd H (by simp)
  rw [if_pos c5] at H
  have LMc5 := Aside0.mk c5
  clear c5
  obtain ⟨y341, hy341⟩ : ∃ y_ : List Int, y_ = (y338 ++ [((l0_3.length : Int)) % 256]) := ⟨_, rfl⟩
  replace H : (impl_packed.l0 k y341 l0_3 (l0_3.length : Int) 0 a0_0 a0_1 a0_2 l0_3 a0_4 a0_5 a0_6 l0_7) = some r := by first | (rw [hy341]; with_reducible exact H) | (have H2_ := (Option.bind_some _ _).symm.trans H; rw [hy341]; with_reducible exact H2_) | (have H2_ := (Option.bind_some _ _).symm.trans H; with_reducible exact H2_) | with_reducible exact H | (rw [hy341]; exact H) | exact H
  have Ny341 := Aside0.mk hy341
  clear hy341
  have H' := Aside0.mk H
  clear H
  go_enter Try.func61, Try.ntmps61
  try go_wp2_with (first | ((with_reducible refine gate_dst (N := 1) rfl ?_); refine box_event ?hg (N := 1) ?hd (cs := #[.int .i64 a0_0, .string a0_1, .string a0_2, .slice A0_3 l0_3.length c0_3, .int .i64 a0_4, .int .i64 a0_5, .int .i64 a0_6, .slice A0_7 l0_7.length c0_7]) (t := 37) ?hr ?_; (case hd => rfl); (case hg => rfl); (case hr => first | (go_simp; done) | (go_simp; rfl)); intro gb328 hg w6 hbox hb; have n0_ := Aside0.mk (below_step (HB_up HB.out) hb); have n1_ := Aside0.mk (hbox); have n2_ := Aside0.mk ((by rw [hg]; exact (below_size (HB_up HB.out)) : w.heap.size ≤ gb328)); have n3_ := Aside0.mk ((by rw [hg]; exact (below_size (HB_up HB.out)) : w.heap.size ≤ gb328)); clear HB; have HB := n0_; have BK328 := n1_; have GW328 := n2_; have GE328 := n3_; clear n0_ n1_ n2_ n3_; clear hb hbox hg; obtain ⟨hcz7_0, hcz7_1, hcz7_2, hcz7_3, hcz7_4, hcz7_5, hcz7_6, hcz7_7⟩ := blk_cells8 BK328.out; obtain ⟨hfz7_0, hfz7_1, hfz7_2, hfz7_3, hfz7_4, hfz7_5, hfz7_6, hfz7_7⟩ := blk_frozen8 BK328.out) | ((with_reducible refine gate_dst (N := 14) rfl ?_); refine Kd.R_lit (Kd.int .u8) _ 5 ?hg (N := 14) ?hd (xs := ([(a0_0) % 256, ((a0_1.size : Int)) % 256] : List Int)) (inner := [.int .u8 ((a0_0) % 256), .int .u8 (((a0_1.size : Int)) % 256)]) (ok := fun _ => True) (okp := fun _ => True) ?hr ?hp (fun _ hk => hk) trivial (Below.refl _ _) (Nat.le_refl _) (by simp) ?_; (case hd => rfl); (case hg => rfl); (case hr => first | (go_simp; done) | (go_simp; rfl)); (case hp => exact (Reps.one (show Kd.M (Kd.int .u8) _ _ _ ((a0_0) % 256) [.int .u8 ((a0_0) % 256)] from rfl) (Reps.one (show Kd.M (Kd.int .u8) _ _ _ (((a0_1.size : Int)) % 256) [.int .u8 (((a0_1.size : Int)) % 256)] from rfl) (Reps.none _ _)))); intro v330 w8 ho9 hb hg_ hnew_; clear hg_ hnew_; (first | rw [← Ny329.out] at ho9 | (simp only [Int.reduceToNat] at ho9; rw [← Ny329.out] at ho9)); have HO331 := Aside0.mk (Kd.R_lower ho9 (below_size (HB_up HB.out))); replace BK328 := Aside0.mk (blk_below (g := gb328) (blk_up BK328.out) hb); replace HB := Aside0.mk (below_step (HB_up HB.out) hb); clear hb ho9; obtain ⟨hcz10_0, hcz10_1, hcz10_2, hcz10_3, hcz10_4, hcz10_5, hcz10_6, hcz10_7⟩ := blk_cells8 BK328.out; obtain ⟨hfz10_0, hfz10_1, hfz10_2, hfz10_3, hfz10_4, hfz10_5, hfz10_6, hfz10_7⟩ := blk_frozen8 BK328.out) | (at_builtin; refine print_append_str (w0 := w) w.heap.size rfl (.tmp 15) _ 24 9 5 rfl Try.underlying24 Try.underlying9 info5 v330 y329 a0_1 rfl rfl ?aO ?aB ?aS ?aL ?_; (case aB => exact (HB_up HB.out)); (case aO => exact (Kd.own_of_R (R_up HO331.out))); (case aS => exact (below_size (HB_up HB.out))); (case aL => have := LMc2.out; omega); intro v333 w11 ho0 hb hg; have ho := Kd.R_of_own (h1 := fun _ => rfl) (ok := fun _ => True) ho0 (fun _ _ => trivial); clear ho0; have hat := True.intro; rw [← Ny332.out] at ho; change Kd.R (Kd.int .u8) 5 w11 w.heap.size (fun _ => True) v333 y332 at ho; have n0_ := Aside0.mk (blk_grown (g := gb328) (blk_up BK328.out) hg (Kd.R_ne HO331.out BK328.out (by decide))); have n1_ := Aside0.mk (hb); have n2_ := Aside0.mk (ho); clear BK328; clear HB; clear HO331; have BK328 := n0_; have HB := n1_; have HO334 := n2_; clear n0_ n1_ n2_; clear ho hb hg hat))
  replace HO334 := Aside0.mk (Kd.R_drew HO334.out)
  replace BK328 := Aside0.mk (blk_drew BK328.out)
  replace HB := Aside0.mk (below_drew1 HB.out)
  refine start_ (n := 11) (S := fun w' => w'.cell? ⟨gb328, 0, none⟩ = some (.int .i64 a0_0) ∧ w'.cell? ⟨gb328, 1, none⟩ = some (.string a0_1) ∧ w'.cell? ⟨gb328, 2, none⟩ = some (.string a0_2) ∧ w'.cell? ⟨gb328, 3, none⟩ = some (.slice A0_3 l0_3.length c0_3) ∧ w'.cell? ⟨gb328, 4, none⟩ = some (.int .i64 a0_4) ∧ w'.cell? ⟨gb328, 5, none⟩ = some (.int .i64 a0_5) ∧ w'.cell? ⟨gb328, 6, none⟩ = some (.int .i64 a0_6) ∧ w'.cell? ⟨gb328, 7, none⟩ = some (.slice A0_7 l0_7.length c0_7)) (ds := []) #[false, false, false, false, false, false, false, false, false, false, false] (by kernel_rfl) rfl rfl ⟨(blk_cell BK328.out 0).trans rfl, (blk_cell BK328.out 1).trans rfl, (blk_cell BK328.out 2).trans rfl, (blk_cell BK328.out 3).trans rfl, (blk_cell BK328.out 4).trans rfl, (blk_cell BK328.out 5).trans rfl, (blk_cell BK328.out 6).trans rfl, (blk_cell BK328.out 7).trans rfl⟩ (fun hHeld => ?_); refine with_tabW impl_packed.tab3 impl_packed.bits3 (fun HT_ HW_ => ?_)
  generalize w11.drew = w12 at HO334 BK328 HB hHeld ⊢
  refine pu_ (i := 0) (N := some 19) (v := ?_) (a' := ?_) rfl rfl (any_of HT_.out (by kernel_rfl)) (fun _ _ _ h => h) (Or.inl ⟨by rfl, ?_⟩) ?_ ?_; rotate_left
  · intro w'; go_simp; all_goals (first | with_reducible rfl | (simp [Instr.field, go_sem]; rfl))
  rotate_left
  · simp only [Act.put, List.setIfInBounds_toArray, List.set_cons_zero, List.set_cons_succ, i64_w, i32_w]; rfl
  refine pu_ (i := 1) (N := some 20) (v := ?_) (a' := ?_) rfl rfl (any_of HT_.out (by kernel_rfl)) (fun _ _ _ h => h) (Or.inl ⟨by rfl, ?_⟩) ?_ ?_; rotate_left
  · intro w'; go_simp; all_goals (first | with_reducible rfl | (simp [Instr.field, go_sem]; rfl))
  rotate_left
  · simp only [Act.put, List.setIfInBounds_toArray, List.set_cons_zero, List.set_cons_succ, i64_w, i32_w]; rfl
  refine pu_ (i := 7) (N := some 26) (v := ?_) (a' := ?_) rfl rfl (any_of HT_.out (by kernel_rfl)) (fun _ _ _ h => h) (Or.inl ⟨by rfl, ?_⟩) ?_ ?_; rotate_left
  · intro w'; go_simp; all_goals (first | with_reducible rfl | (simp [Instr.field, go_sem]; rfl))
  rotate_left
  · simp only [Act.put, List.setIfInBounds_toArray, List.set_cons_zero, List.set_cons_succ, i64_w, i32_w]; rfl
  refine ta_ (i := 2) (N := some 21) (v := ?_) (a' := ?_) rfl rfl (take_ofW HT_.out HW_.out (by kernel_rfl)) (fun _ _ _ h => h) (Or.inl ⟨by rfl, ?_⟩) hHeld ?_ ?_; rotate_left
  · rintro w' ⟨s0, s1, s2, s3, s4, s5, s6, s7⟩; go_simp; all_goals (first | with_reducible rfl | (simp [Instr.field, go_sem]; rfl))
  rotate_left
  · simp only [Act.put, List.setIfInBounds_toArray, List.set_cons_zero, List.set_cons_succ, i64_w, i32_w]; rfl
  refine pu_ (i := 3) (N := some 22) (v := ?_) (a' := ?_) rfl rfl (any_of HT_.out (by kernel_rfl)) (fun _ _ _ h => h) (Or.inl ⟨by rfl, ?_⟩) ?_ ?_; rotate_left
  · intro w'; go_simp; all_goals (first | with_reducible rfl | (simp [Instr.field, go_sem]; rfl))
  rotate_left
  · simp only [Act.put, List.setIfInBounds_toArray, List.set_cons_zero, List.set_cons_succ, i64_w, i32_w]; rfl
  refine pu_ (i := 4) (N := some 23) (v := ?_) (a' := ?_) rfl rfl (any_of HT_.out (by kernel_rfl)) (fun _ _ _ h => h) (Or.inl ⟨by rfl, ?_⟩) ?_ ?_; rotate_left
  · intro w'; go_simp; all_goals (first | with_reducible rfl | (simp [Instr.field, go_sem]; rfl))
  rotate_left
  · simp only [Act.put, List.setIfInBounds_toArray, List.set_cons_zero, List.set_cons_succ, i64_w, i32_w]; rfl
  refine ta_ (i := 8) (N := some 27) (v := ?_) (a' := ?_) rfl rfl (take_ofW HT_.out HW_.out (by kernel_rfl)) (fun _ _ _ h => h) (Or.inl ⟨by rfl, ?_⟩) hHeld ?_ ?_; rotate_left
  · rintro w' ⟨s0, s1, s2, s3, s4, s5, s6, s7⟩; go_simp; all_goals (first | with_reducible rfl | (simp [Instr.field, go_sem]; rfl))
  rotate_left
  · simp only [Act.put, List.setIfInBounds_toArray, List.set_cons_zero, List.set_cons_succ, i64_w, i32_w]; rfl
  refine on_ (i := 5) (N := some 24) rfl rfl (one_of HT_.out (by kernel_rfl)) (by decide) (fun K hK => ?_)
  refine value_ (w1 := ?_) (v := ?_) (by rfl) rfl ?_ ?_
  rotate_left 2
  · go_simp
    constructor
    · rfl
    · rfl
  refine hK.out _ _ ⟨(blk_cell (blk_alloc BK328.out _) 0).trans rfl, (blk_cell (blk_alloc BK328.out _) 1).trans rfl, (blk_cell (blk_alloc BK328.out _) 2).trans rfl, (blk_cell (blk_alloc BK328.out _) 3).trans rfl, (blk_cell (blk_alloc BK328.out _) 4).trans rfl, (blk_cell (blk_alloc BK328.out _) 5).trans rfl, (blk_cell (blk_alloc BK328.out _) 6).trans rfl, (blk_cell (blk_alloc BK328.out _) 7).trans rfl⟩ (fun hHeld => ?_)
  clear hK K
  refine norm_ (a' := ?_) ?_ ?_
  rotate_left
  · show Act.put _ (some 24) _ = _
    simp only [Act.put, List.setIfInBounds_toArray, List.set_cons_zero, List.set_cons_succ, i64_w, i32_w]
    rfl
  refine on_ (i := 6) (N := some 25) rfl rfl (one_of HT_.out (by kernel_rfl)) (by decide) (fun K hK => ?_)
  refine Kd.R_append_step (Kd.int .u8) (w0 := w) w.heap.size (by rfl) (.tmp 19) (.tmp 24) 24 5 (.int .u8 0) 1 rfl Try.underlying24 info5 rfl (by decide) (by omega) v333 y332 (((a0_2.size : Int)) % 256) [.int .u8 (((a0_2.size : Int)) % 256)] (fun _ => True) (fun _ => False) rfl rfl ?aP (fun _ hk => hk.elim) ?aF ?aO ?aB ?aS ?aL ?_
  (case aP => exact rfl)
  (case aB => exact (HB_up HB.out))
  (case aF => exact (fun _ _ => trivial))
  (case aO => exact (R_up HO334.out))
  (case aS => exact (below_size (HB_up HB.out)))
  (case aL => have := LMc3.out; omega)
  intro v336 w13 ho hb hg hat
  rw [← Ny335.out] at ho
  have n0_ := Aside0.mk (blk_grown (g := gb328) (blk_up BK328.out) hg (Kd.R_ne HO334.out BK328.out (by decide)))
  have n1_ := Aside0.mk (hb)
  have n2_ := Aside0.mk (ho)
  clear BK328
  clear HB
  clear HO334
  have BK328 := n0_
  have HB := n1_
  have HO337 := n2_
  clear n0_ n1_ n2_
  clear ho hb hg hat
  refine hK.out _ _ ⟨(blk_cell BK328.out 0).trans rfl, (blk_cell BK328.out 1).trans rfl, (blk_cell BK328.out 2).trans rfl, (blk_cell BK328.out 3).trans rfl, (blk_cell BK328.out 4).trans rfl, (blk_cell BK328.out 5).trans rfl, (blk_cell BK328.out 6).trans rfl, (blk_cell BK328.out 7).trans rfl⟩ (fun hHeld => ?_)
  clear hK K
  refine norm_ (a' := ?_) ?_ ?_
  rotate_left
  · show Act.put _ (some 25) _ = _
    simp only [Act.put, List.setIfInBounds_toArray, List.set_cons_zero, List.set_cons_succ, i64_w, i32_w]
    rfl
  refine on_ (i := 9) (N := some 28) rfl rfl (one_of HT_.out (by kernel_rfl)) (by decide) (fun K hK => ?_)
  refine print_append_str_step (w0 := w) w.heap.size (by rfl) (.tmp 25) _ 24 9 5 rfl Try.underlying24 Try.underlying9 info5 v336 y335 a0_2 rfl rfl ?aO ?aB ?aS ?aL ?_
  (case aB => exact (HB_up HB.out))
  (case aO => exact (Kd.own_of_R (R_up HO337.out)))
  (case aS => exact (below_size (HB_up HB.out)))
  (case aL => have := LMc4.out; omega)
  intro v339 w14 ho0 hb hg
  have ho := Kd.R_of_own (h1 := fun _ => rfl) (ok := fun _ => True) ho0 (fun _ _ => trivial)
  clear ho0
  have hat := True.intro
  rw [← Ny338.out] at ho
  change Kd.R (Kd.int .u8) 5 w14 w.heap.size (fun _ => True) v339 y338 at ho
  have n0_ := Aside0.mk (blk_grown (g := gb328) (blk_up BK328.out) hg (Kd.R_ne HO337.out BK328.out (by decide)))
  have n1_ := Aside0.mk (hb)
  have n2_ := Aside0.mk (ho)
  clear BK328
  clear HB
  clear HO337
  have BK328 := n0_
  have HB := n1_
  have HO340 := n2_
  clear n0_ n1_ n2_
  clear ho hb hg hat
  refine hK.out _ _ ⟨(blk_cell BK328.out 0).trans rfl, (blk_cell BK328.out 1).trans rfl, (blk_cell BK328.out 2).trans rfl, (blk_cell BK328.out 3).trans rfl, (blk_cell BK328.out 4).trans rfl, (blk_cell BK328.out 5).trans rfl, (blk_cell BK328.out 6).trans rfl, (blk_cell BK328.out 7).trans rfl⟩ (fun hHeld => ?_)
  clear hK K
  refine norm_ (a' := ?_) ?_ ?_
  rotate_left
  · show Act.put _ (some 28) _ = _
    simp only [Act.put, List.setIfInBounds_toArray, List.set_cons_zero, List.set_cons_succ, i64_w, i32_w]
    rfl
  refine pu_ (i := 10) (N := some 3) (v := ?_) (a' := ?_) rfl rfl (any_of HT_.out (by kernel_rfl)) (fun _ _ _ h => h) (Or.inl ⟨by rfl, ?_⟩) ?_ ?_; rotate_left
  · intro w'; go_simp; all_goals (first | with_reducible rfl | (simp [Instr.field, go_sem]; rfl))
  rotate_left
  · simp only [Act.put, List.setIfInBounds_toArray, List.set_cons_zero, List.set_cons_succ, i64_w, i32_w]; rfl
  refine done_ (done_of HT_.out (by kernel_rfl)) ?_
  obtain ⟨hcz15_0, hcz15_1, hcz15_2, hcz15_3, hcz15_4, hcz15_5, hcz15_6, hcz15_7⟩ := blk_cells8 BK328.out
  obtain ⟨hfz15_0, hfz15_1, hfz15_2, hfz15_3, hfz15_4, hfz15_5, hfz15_6, hfz15_7⟩ := blk_frozen8 BK328.out
  try go_wp2_with (first | ((with_reducible refine gate_builtin (b := .append) (xs := #[.tmp 29, .tmp 34]) rfl ?_); at_builtin; refine Kd.R_append (Kd.int .u8) (w0 := w) w.heap.size rfl (.tmp 29) (.tmp 34) 24 5 (.int .u8 0) 1 rfl Try.underlying24 info5 rfl (by decide) (by omega) v339 y338 (((l0_3.length : Int)) % 256) [.int .u8 (((l0_3.length : Int)) % 256)] (fun _ => True) (fun _ => False) rfl rfl ?aP (fun _ hk => hk.elim) ?aF ?aO ?aB ?aS ?aL ?_; (case aP => exact rfl); (case aB => exact (HB_up HB.out)); (case aF => exact (fun _ _ => trivial)); (case aO => exact (R_up HO340.out)); (case aS => exact (below_size (HB_up HB.out))); (case aL => have := LMc5.out; omega); intro v342 w16 ho hb hg hat; rw [← Ny341.out] at ho; have n0_ := Aside0.mk (blk_grown (g := gb328) (blk_up BK328.out) hg (Kd.R_ne HO340.out BK328.out (by decide))); have n1_ := Aside0.mk (hb); have n2_ := Aside0.mk (ho); clear BK328; clear HB; clear HO340; have BK328 := n0_; have HB := n1_; have HO343 := n2_; clear n0_ n1_ n2_; clear ho hb hg hat; obtain ⟨hcz17_0, hcz17_1, hcz17_2, hcz17_3, hcz17_4, hcz17_5, hcz17_6, hcz17_7⟩ := blk_cells8 BK328.out; obtain ⟨hfz17_0, hfz17_1, hfz17_2, hfz17_3, hfz17_4, hfz17_5, hfz17_6, hfz17_7⟩ := blk_frozen8 BK328.out))
  go_loopg [3, 39] k (fun kq v3 v39 w' => ∃ (x3_1 : List Int) (x39_1 : Int), v39 = .int .i64 x39_1 ∧ Aside0 (impl_packed.l0 kq x3_1 l0_3 (l0_3.length : Int) x39_1 a0_0 a0_1 a0_2 l0_3 a0_4 a0_5 a0_6 l0_7 = some r) ∧ Aside0 (kq ≤ k) ∧ Aside0 (Kd.R (Kd.int .u8) 5 w' w.heap.size (fun _ => True) v3 x3_1) ∧ Aside0 (w'.heap[gb328]? = some (.cells #[.int .i64 a0_0, .string a0_1, .string a0_2, (.slice A0_3 l0_3.length c0_3), .int .i64 a0_4, .int .i64 a0_5, .int .i64 a0_6, (.slice A0_7 l0_7.length c0_7)] 37 (0, 0))) ∧ Aside0 (Below w.heap.size w w'))
  case atStart => exact ⟨(y341), (0), vl_, H', ⟨Nat.le_refl _⟩, ⟨R_up HO343.out⟩, ⟨blk_up BK328.out⟩, ⟨hs_⟩⟩
  case round =>
   clear H'
   try clear c2
   try clear c3
   try clear c4
   try clear c5
   try clear hcz10_0
   try clear hcz10_1
   try clear hcz10_2
   try clear hcz10_3
   try clear hcz10_4
   try clear hcz10_5
   try clear hcz10_6
   try clear hcz10_7
   try clear hcz15_0
   try clear hcz15_1
   try clear hcz15_2
   try clear hcz15_3
   try clear hcz15_4
   try clear hcz15_5
   try clear hcz15_6
   try clear hcz15_7
   try clear hcz17_0
   try clear hcz17_1
   try clear hcz17_2
   try clear hcz17_3
   try clear hcz17_4
   try clear hcz17_5
   try clear hcz17_6
   try clear hcz17_7
   try clear hcz7_0
   try clear hcz7_1
   try clear hcz7_2
   try clear hcz7_3
   try clear hcz7_4
   try clear hcz7_5
   try clear hcz7_6
   try clear hcz7_7
   try clear hfz10_0
   try clear hfz10_1
   try clear hfz10_2
   try clear hfz10_3
   try clear hfz10_4
   try clear hfz10_5
   try clear hfz10_6
   try clear hfz10_7
   try clear hfz15_0
   try clear hfz15_1
   try clear hfz15_2
   try clear hfz15_3
   try clear hfz15_4
   try clear hfz15_5
   try clear hfz15_6
   try clear hfz15_7
   try clear hfz17_0
   try clear hfz17_1
   try clear hfz17_2
   try clear hfz17_3
   try clear hfz17_4
   try clear hfz17_5
   try clear hfz17_6
   try clear hfz17_7
   try clear hfz7_0
   try clear hfz7_1
   try clear hfz7_2
   try clear hfz7_3
   try clear hfz7_4
   try clear hfz7_5
   try clear hfz7_6
   try clear hfz7_7
   obtain ⟨x3_1, x39_1, rfl, HA, HK1, HO_3, BK328, HB⟩ := hrel
   cases gk with
   | zero => exact absurd HA.out (by simp [impl_packed.l0])
   | succ k1 =>
     have H := HA.out
     clear HA
     simp only [impl_packed.l0] at H
     by_cases c18 : x39_1 < (l0_3.length : Int)
     ·
      rw [if_pos c18] at H
      have c18b0 : decide (x39_1 < (l0_3.length : Int)) = true := decide_eq_true c18
      clear c18
      by_cases c19 : 0 ≤ x39_1
      case neg => rw [if_neg c19] at H; exact absurd H (by simp)
      rw [if_pos c19] at H
      have c19b0 : decide (0 ≤ x39_1) = true := decide_eq_true c19
      clear c19
      by_cases c20 : x39_1 < (l0_3.length : Int)
      case neg => rw [if_neg c20] at H; exact absurd H (by simp)
      rw [if_pos c20] at H
      have c20b0 : decide (x39_1 < (l0_3.length : Int)) = true := decide_eq_true c20
      clear c20
      replace H := Option.bind_eq_some_iff.mp H
      obtain ⟨t345, A210, H⟩ := H
      (try dsimp only at H)
      have A21 := Aside0.mk A210
      clear A210
      by_cases c22 : x3_1.length + t345.length < 140737488355328
      case neg => rw [if_neg c22] at H; exact absurd H (by simp)
      rw [if_pos c22] at H
      have LMc22 := Aside0.mk c22
      clear c22
      obtain ⟨y348, hy348⟩ : ∃ y_ : List Int, y_ = (x3_1 ++ t345) := ⟨_, rfl⟩
      replace H : (impl_packed.l0 k1 y348 l0_3 (l0_3.length : Int) (wrap64 (x39_1 + 1)) a0_0 a0_1 a0_2 l0_3 a0_4 a0_5 a0_6 l0_7) = some r := by first | (rw [hy348]; with_reducible exact H) | (have H2_ := (Option.bind_some _ _).symm.trans H; rw [hy348]; with_reducible exact H2_) | (have H2_ := (Option.bind_some _ _).symm.trans H; with_reducible exact H2_) | with_reducible exact H | (rw [hy348]; exact H) | exact H
      have Ny348 := Aside0.mk hy348
      clear hy348
      have H' := Aside0.mk H
      clear H
      have p344 : 0 ≤ (x39_1 : Int) := od_
      have q344 : x39_1 < (l0_3.length : Int) := od_
      obtain ⟨ad344, e344, hx344_0⟩ := Kd.at_int HR0_3.out x39_1 p344 q344
      cases e344
      replace hx344_0 := ck_ HB.out hx344_0
      replace p344 := eq_true p344
      replace q344 := eq_true q344
      go_wp2_with (first | ((with_reducible refine gate_callee (f := 96) rfl ?_); refine goesY_ (some 45) Try.func96 #[.int .i64 (rd l0_3 x39_1)] rfl ?_; (with_reducible refine (impl_two.calls (rd l0_3 x39_1) t345 _ A21.out).mono ?_); rintro e w23 ⟨v346, rfl, ho0, hb⟩; refine ⟨_, rfl, ?_⟩; have n0_ := Aside0.mk (Kd.R_elder' (R_up HO_3.out) (Kd.R_base ho0) hb); have n1_ := Aside0.mk (Kd.R_lower (Kd.R_new' ho0 (Kd.R_lt (R_up HO_3.out))) (below_size (HB_up HB.out))); have n2_ := Aside0.mk (blk_below (g := gb328) (blk_up BK328.out) hb); have n3_ := Aside0.mk (below_step (HB_up HB.out) hb); clear HO_3; clear BK328; clear HB; have HO_3 := n0_; have HO347 := n1_; have BK328 := n2_; have HB := n3_; clear n0_ n1_ n2_ n3_; (try clear hb); (try clear hb2); (try clear hk); (try clear hi); (try clear ho0); obtain ⟨Ao25, co25, eo25⟩ := Kd.R_slice HO347.out; subst eo25) | ((with_reducible refine gate_builtin (b := .append) (xs := #[.tmp 43, .tmp 45]) rfl ?_); at_builtin; refine Kd.R_append_rows (Kd.int .u8) (w0 := w) w.heap.size rfl (.tmp 43) (.tmp 45) 24 5 (.int .u8 0) 1 rfl Try.underlying24 info5 rfl (by decide) (by omega) u3 x3_1 t345 _ _ _ (fun k_ => some k_ ≠ (.slice Ao25 t345.length co25 : Value).ownBlock) (fun _ => False) rfl rfl ?aO ?aR (fun _ _ h => h) (fun _ h => h.elim) ?aF ?aB ?aS ?aL ?_; (case aR => exact C_up (Kd.R_reads' HO347.out).2.2); (case aB => exact (HB_up HB.out)); (case aF => exact (fun k_ hk => Kd.fresh' (Kd.R_lt (R_up HO347.out)) k_ hk)); (case aO => exact (by (with_reducible repeat (first | apply Kd.R_alloc | apply Kd.R_drewN | apply Kd.R_drew)); exact Kd.R_mono HO_3.out (fun _ hk => hk.2))); (case aS => exact (below_size (HB_up HB.out))); (case aL => have := LMc22.out; omega); intro v349 w24 ho hb hg hat; rw [← Ny348.out] at ho; have n0_ := Aside0.mk (blk_grown (g := gb328) (blk_up BK328.out) hg (Kd.R_ne HO_3.out BK328.out (by decide))); have n1_ := Aside0.mk (Kd.R_after (ok := (fun _ => True)) (R_up HO347.out) hg hat); have n2_ := Aside0.mk (hb); have n3_ := Aside0.mk (ho); clear BK328; clear HO347; clear HB; clear HO_3; have BK328 := n0_; have HO347 := n1_; have HB := n2_; have HO350 := n3_; clear n0_ n1_ n2_ n3_; clear ho hb hg hat))
      go_roundg k1
      case measure => have := HK1.out; omega
      case rel => exact ⟨(y348), (wrap64 (x39_1 + 1)), vl_, H', ⟨by have := HK1.out; omega⟩, ⟨by (with_reducible repeat (first | apply Kd.R_alloc | apply Kd.R_drewN | apply Kd.R_drew)); exact Kd.R_mono HO350.out (fun _ hk => trivial)⟩, ⟨blk_up BK328.out⟩, ⟨hs_⟩⟩
     ·
      rw [if_neg c18] at H
      have c18b0 : decide (x39_1 < (l0_3.length : Int)) = false := decide_eq_false c18
      clear c18
      obtain ⟨y351, hy351⟩ : ∃ y_ : List Int, y_ = (([(a0_4) % 256, (a0_5) % 256] : List Int)) := ⟨_, rfl⟩
      replace H : (if x3_1.length + y351.length < 140737488355328 then ((some (x3_1 ++ y351 : List Int)).bind fun y354 => ((impl_two.f a0_6).bind fun t357 => (if y354.length + t357.length < 140737488355328 then ((some (y354 ++ t357 : List Int)).bind fun y360 => ((impl_length_byte.f l0_7).bind fun t363 => ((impl_two.f t363).bind fun t364 => (if y360.length + t364.length < 140737488355328 then ((some (y360 ++ t364 : List Int)).bind fun y367 => (if y367.length + l0_7.length < 140737488355328 then ((some (y367 ++ l0_7 : List Int)).bind fun y370 => ((impl_length_byte.f y370).bind fun t373 => ((impl_two.f (wrap64 (t373 + 4))).bind fun t374 => (if t374.length + y370.length < 140737488355328 then ((some (t374 ++ y370 : List Int)).bind fun y377 => ((impl_sumOf.f k1 y377).bind fun t380 => ((impl_two.f t380).bind fun t381 => (if y377.length + t381.length < 140737488355328 then (some (y377 ++ t381)) else (none))))) else (none))))) else (none))) else (none))))) else (none)))) else (none)) = some r := by first | (rw [hy351]; with_reducible exact H) | (have H2_ := (Option.bind_some _ _).symm.trans H; rw [hy351]; with_reducible exact H2_) | (have H2_ := (Option.bind_some _ _).symm.trans H; with_reducible exact H2_) | with_reducible exact H | (rw [hy351]; exact H) | exact H
      have Ny351 := Aside0.mk hy351
      clear hy351
      by_cases c26 : x3_1.length + y351.length < 140737488355328
      case neg => rw [if_neg c26] at H; exact absurd H (by simp)
      rw [if_pos c26] at H
      have LMc26 := Aside0.mk c26
      clear c26
      obtain ⟨y354, hy354⟩ : ∃ y_ : List Int, y_ = (x3_1 ++ y351) := ⟨_, rfl⟩
      replace H : ((impl_two.f a0_6).bind fun t357 => (if y354.length + t357.length < 140737488355328 then ((some (y354 ++ t357 : List Int)).bind fun y360 => ((impl_length_byte.f l0_7).bind fun t363 => ((impl_two.f t363).bind fun t364 => (if y360.length + t364.length < 140737488355328 then ((some (y360 ++ t364 : List Int)).bind fun y367 => (if y367.length + l0_7.length < 140737488355328 then ((some (y367 ++ l0_7 : List Int)).bind fun y370 => ((impl_length_byte.f y370).bind fun t373 => ((impl_two.f (wrap64 (t373 + 4))).bind fun t374 => (if t374.length + y370.length < 140737488355328 then ((some (t374 ++ y370 : List Int)).bind fun y377 => ((impl_sumOf.f k1 y377).bind fun t380 => ((impl_two.f t380).bind fun t381 => (if y377.length + t381.length < 140737488355328 then (some (y377 ++ t381)) else (none))))) else (none))))) else (none))) else (none))))) else (none))) = some r := by first | (rw [hy354]; with_reducible exact H) | (have H2_ := (Option.bind_some _ _).symm.trans H; rw [hy354]; with_reducible exact H2_) | (have H2_ := (Option.bind_some _ _).symm.trans H; with_reducible exact H2_) | with_reducible exact H | (rw [hy354]; exact H) | exact H
      have Ny354 := Aside0.mk hy354
      clear hy354
      replace H := Option.bind_eq_some_iff.mp H
      obtain ⟨t357, A270, H⟩ := H
      (try dsimp only at H)
      have A27 := Aside0.mk A270
      clear A270
      by_cases c28 : y354.length + t357.length < 140737488355328
      case neg => rw [if_neg c28] at H; exact absurd H (by simp)
      rw [if_pos c28] at H
      have LMc28 := Aside0.mk c28
      clear c28
      obtain ⟨y360, hy360⟩ : ∃ y_ : List Int, y_ = (y354 ++ t357) := ⟨_, rfl⟩
      replace H : ((impl_length_byte.f l0_7).bind fun t363 => ((impl_two.f t363).bind fun t364 => (if y360.length + t364.length < 140737488355328 then ((some (y360 ++ t364 : List Int)).bind fun y367 => (if y367.length + l0_7.length < 140737488355328 then ((some (y367 ++ l0_7 : List Int)).bind fun y370 => ((impl_length_byte.f y370).bind fun t373 => ((impl_two.f (wrap64 (t373 + 4))).bind fun t374 => (if t374.length + y370.length < 140737488355328 then ((some (t374 ++ y370 : List Int)).bind fun y377 => ((impl_sumOf.f k1 y377).bind fun t380 => ((impl_two.f t380).bind fun t381 => (if y377.length + t381.length < 140737488355328 then (some (y377 ++ t381)) else (none))))) else (none))))) else (none))) else (none)))) = some r := by first | (rw [hy360]; with_reducible exact H) | (have H2_ := (Option.bind_some _ _).symm.trans H; rw [hy360]; with_reducible exact H2_) | (have H2_ := (Option.bind_some _ _).symm.trans H; with_reducible exact H2_) | with_reducible exact H | (rw [hy360]; exact H) | exact H
      have Ny360 := Aside0.mk hy360
      clear hy360
      replace H := Option.bind_eq_some_iff.mp H
      obtain ⟨t363, A290, H⟩ := H
      (try dsimp only at H)
      have A29 := Aside0.mk A290
      clear A290
      replace H := Option.bind_eq_some_iff.mp H
      obtain ⟨t364, A300, H⟩ := H
      (try dsimp only at H)
      have A30 := Aside0.mk A300
      clear A300
      by_cases c31 : y360.length + t364.length < 140737488355328
      case neg => rw [if_neg c31] at H; exact absurd H (by simp)
      rw [if_pos c31] at H
      have LMc31 := Aside0.mk c31
      clear c31
      obtain ⟨y367, hy367⟩ : ∃ y_ : List Int, y_ = (y360 ++ t364) := ⟨_, rfl⟩
      replace H : (if y367.length + l0_7.length < 140737488355328 then ((some (y367 ++ l0_7 : List Int)).bind fun y370 => ((impl_length_byte.f y370).bind fun t373 => ((impl_two.f (wrap64 (t373 + 4))).bind fun t374 => (if t374.length + y370.length < 140737488355328 then ((some (t374 ++ y370 : List Int)).bind fun y377 => ((impl_sumOf.f k1 y377).bind fun t380 => ((impl_two.f t380).bind fun t381 => (if y377.length + t381.length < 140737488355328 then (some (y377 ++ t381)) else (none))))) else (none))))) else (none)) = some r := by first | (rw [hy367]; with_reducible exact H) | (have H2_ := (Option.bind_some _ _).symm.trans H; rw [hy367]; with_reducible exact H2_) | (have H2_ := (Option.bind_some _ _).symm.trans H; with_reducible exact H2_) | with_reducible exact H | (rw [hy367]; exact H) | exact H
      have Ny367 := Aside0.mk hy367
      clear hy367
      by_cases c32 : y367.length + l0_7.length < 140737488355328
      case neg => rw [if_neg c32] at H; exact absurd H (by simp)
      rw [if_pos c32] at H
      have LMc32 := Aside0.mk c32
      clear c32
      obtain ⟨y370, hy370⟩ : ∃ y_ : List Int, y_ = (y367 ++ l0_7) := ⟨_, rfl⟩
      replace H : ((impl_length_byte.f y370).bind fun t373 => ((impl_two.f (wrap64 (t373 + 4))).bind fun t374 => (if t374.length + y370.length < 140737488355328 then ((some (t374 ++ y370 : List Int)).bind fun y377 => ((impl_sumOf.f k1 y377).bind fun t380 => ((impl_two.f t380).bind fun t381 => (if y377.length + t381.length < 140737488355328 then (some (y377 ++ t381)) else (none))))) else (none)))) = some r := by first | (rw [hy370]; with_reducible exact H) | (have H2_ := (Option.bind_some _ _).symm.trans H; rw [hy370]; with_reducible exact H2_) | (have H2_ := (Option.bind_some _ _).symm.trans H; with_reducible exact H2_) | with_reducible exact H | (rw [hy370]; exact H) | exact H
      have Ny370 := Aside0.mk hy370
      clear hy370
      replace H := Option.bind_eq_some_iff.mp H
      obtain ⟨t373, A330, H⟩ := H
      (try dsimp only at H)
      have A33 := Aside0.mk A330
      clear A330
      replace H := Option.bind_eq_some_iff.mp H
      obtain ⟨t374, A340, H⟩ := H
      (try dsimp only at H)
      have A34 := Aside0.mk A340
      clear A340
      by_cases c35 : t374.length + y370.length < 140737488355328
      case neg => rw [if_neg c35] at H; exact absurd H (by simp)
      rw [if_pos c35] at H
      have LMc35 := Aside0.mk c35
      clear c35
      obtain ⟨y377, hy377⟩ : ∃ y_ : List Int, y_ = (t374 ++ y370) := ⟨_, rfl⟩
      replace H : ((impl_sumOf.f k1 y377).bind fun t380 => ((impl_two.f t380).bind fun t381 => (if y377.length + t381.length < 140737488355328 then (some (y377 ++ t381)) else (none)))) = some r := by first | (rw [hy377]; with_reducible exact H) | (have H2_ := (Option.bind_some _ _).symm.trans H; rw [hy377]; with_reducible exact H2_) | (have H2_ := (Option.bind_some _ _).symm.trans H; with_reducible exact H2_) | with_reducible exact H | (rw [hy377]; exact H) | exact H
      have Ny377 := Aside0.mk hy377
      clear hy377
      replace H := Option.bind_eq_some_iff.mp H
      obtain ⟨t380, A360, H⟩ := H
      (try dsimp only at H)
      have A36 := Aside0.mk A360
      clear A360
      replace H := Option.bind_eq_some_iff.mp H
      obtain ⟨t381, A370, H⟩ := H
      (try dsimp only at H)
      have A37 := Aside0.mk A370
      clear A370
      by_cases c38 : y377.length + t381.length < 140737488355328
      case neg => rw [if_neg c38] at H; exact absurd H (by simp)
      rw [if_pos c38] at H
      have LMc38 := Aside0.mk c38
      clear c38
      obtain ⟨y384, hy384⟩ : ∃ y_ : List Int, y_ = (y377 ++ t381) := ⟨_, rfl⟩
      replace H : (some y384) = some r := by first | (rw [hy384]; with_reducible exact H) | (have H2_ := (Option.bind_some _ _).symm.trans H; rw [hy384]; with_reducible exact H2_) | (have H2_ := (Option.bind_some _ _).symm.trans H; with_reducible exact H2_) | with_reducible exact H | (rw [hy384]; exact H) | exact H
      have Ny384 := Aside0.mk hy384
      clear hy384
      obtain rfl := Option.some.inj H
      obtain ⟨_, _, _, _, _, _, _, _⟩ := blk_cells8 BK328.out
      obtain ⟨_, _, _, _, _, _, _, _⟩ := blk_frozen8 BK328.out
      try go_wp2_with (first | ((with_reducible refine gate_dst (N := 55) rfl ?_); refine Kd.R_lit (Kd.int .u8) _ 5 ?hg (N := 55) ?hd (xs := ([(a0_4) % 256, (a0_5) % 256] : List Int)) (inner := [.int .u8 ((a0_4) % 256), .int .u8 ((a0_5) % 256)]) (ok := fun _ => True) (okp := fun _ => True) ?hr ?hp (fun _ hk => hk) trivial (Below.refl _ _) (Nat.le_refl _) (by simp) ?_; (case hd => rfl); (case hg => rfl); (case hr => first | (go_simp; done) | (go_simp; rfl)); (case hp => exact (Reps.one (show Kd.M (Kd.int .u8) _ _ _ ((a0_4) % 256) [.int .u8 ((a0_4) % 256)] from rfl) (Reps.one (show Kd.M (Kd.int .u8) _ _ _ ((a0_5) % 256) [.int .u8 ((a0_5) % 256)] from rfl) (Reps.none _ _)))); intro v352 w40 ho41 hb hg_ hnew_; clear hg_ hnew_; (first | rw [← Ny351.out] at ho41 | (simp only [Int.reduceToNat] at ho41; rw [← Ny351.out] at ho41)); have n0_ := Aside0.mk (Kd.R_elder' (R_up HO_3.out) (Kd.R_base ho41) hb); have n1_ := Aside0.mk (Kd.R_lower (Kd.R_new' ho41 (Kd.R_lt (R_up HO_3.out))) (below_size (HB_up HB.out))); have n2_ := Aside0.mk (blk_below (g := gb328) (blk_up BK328.out) hb); have n3_ := Aside0.mk (below_step (HB_up HB.out) hb); clear HO_3; clear BK328; clear HB; have HO_3 := n0_; have HO353 := n1_; have BK328 := n2_; have HB := n3_; clear n0_ n1_ n2_ n3_; clear hb ho41; obtain ⟨Ao43, co43, eo43⟩ := Kd.R_slice HO353.out; subst eo43) | ((with_reducible refine gate_builtin (b := .append) (xs := #[.tmp 48, .tmp 55]) rfl ?_); at_builtin; refine Kd.R_append_rows (Kd.int .u8) (w0 := w) w.heap.size rfl (.tmp 48) (.tmp 55) 24 5 (.int .u8 0) 1 rfl Try.underlying24 info5 rfl (by decide) (by omega) u3 x3_1 y351 _ _ _ (fun k_ => some k_ ≠ (.slice Ao43 y351.length co43 : Value).ownBlock) (fun _ => False) rfl rfl ?aO ?aR (fun _ _ h => h) (fun _ h => h.elim) ?aF ?aB ?aS ?aL ?_; (case aR => exact C_up (Kd.R_reads' HO353.out).2.2); (case aB => exact (HB_up HB.out)); (case aF => exact (fun k_ hk => Kd.fresh' (Kd.R_lt (R_up HO353.out)) k_ hk)); (case aO => exact (by (with_reducible repeat (first | apply Kd.R_alloc | apply Kd.R_drewN | apply Kd.R_drew)); exact Kd.R_mono HO_3.out (fun _ hk => hk.2))); (case aS => exact (below_size (HB_up HB.out))); (case aL => have := LMc26.out; omega); intro v355 w42 ho hb hg hat; rw [← Ny354.out] at ho; have n0_ := Aside0.mk (blk_grown (g := gb328) (blk_up BK328.out) hg (Kd.R_ne HO_3.out BK328.out (by decide))); have n1_ := Aside0.mk (Kd.R_after (ok := (fun _ => True)) (R_up HO353.out) hg hat); have n2_ := Aside0.mk (hb); have n3_ := Aside0.mk (ho); clear BK328; clear HO353; clear HB; clear HO_3; have BK328 := n0_; have HO353 := n1_; have HB := n2_; have HO356 := n3_; clear n0_ n1_ n2_ n3_; clear ho hb hg hat))
      replace HO353 := Aside0.mk (Kd.R_drew HO353.out)
      replace HO356 := Aside0.mk (Kd.R_drew HO356.out)
      replace BK328 := Aside0.mk (blk_drew BK328.out)
      replace HB := Aside0.mk (below_drew1 HB.out)
      refine start_ (n := 11) (S := fun w' => w'.cell? ⟨gb328, 0, none⟩ = some (.int .i64 a0_0) ∧ w'.cell? ⟨gb328, 1, none⟩ = some (.string a0_1) ∧ w'.cell? ⟨gb328, 2, none⟩ = some (.string a0_2) ∧ w'.cell? ⟨gb328, 3, none⟩ = some (.slice A0_3 l0_3.length c0_3) ∧ w'.cell? ⟨gb328, 4, none⟩ = some (.int .i64 a0_4) ∧ w'.cell? ⟨gb328, 5, none⟩ = some (.int .i64 a0_5) ∧ w'.cell? ⟨gb328, 6, none⟩ = some (.int .i64 a0_6) ∧ w'.cell? ⟨gb328, 7, none⟩ = some (.slice A0_7 l0_7.length c0_7)) (ds := []) #[false, false, false, false, false, false, false, false, false, false, false] (by kernel_rfl) rfl rfl ⟨(blk_cell BK328.out 0).trans rfl, (blk_cell BK328.out 1).trans rfl, (blk_cell BK328.out 2).trans rfl, (blk_cell BK328.out 3).trans rfl, (blk_cell BK328.out 4).trans rfl, (blk_cell BK328.out 5).trans rfl, (blk_cell BK328.out 6).trans rfl, (blk_cell BK328.out 7).trans rfl⟩ (fun hHeld => ?_); refine with_tabW impl_packed.tab11 impl_packed.bits11 (fun HT_ HW_ => ?_)
      generalize w42.drew = w44 at HO353 HO356 BK328 HB hHeld ⊢
      refine pu_ (i := 0) (N := some 57) (v := ?_) (a' := ?_) rfl rfl (any_of HT_.out (by kernel_rfl)) (fun _ _ _ h => h) (Or.inl ⟨by rfl, ?_⟩) ?_ ?_; rotate_left
      · intro w'; go_simp; all_goals (first | with_reducible rfl | (simp [Instr.field, go_sem]; rfl))
      rotate_left
      · simp only [Act.put, List.setIfInBounds_toArray, List.set_cons_zero, List.set_cons_succ, i64_w, i32_w]; rfl
      refine pu_ (i := 1) (N := some 58) (v := ?_) (a' := ?_) rfl rfl (any_of HT_.out (by kernel_rfl)) (fun _ _ _ h => h) (Or.inl ⟨by rfl, ?_⟩) ?_ ?_; rotate_left
      · intro w'; go_simp; all_goals (first | with_reducible rfl | (simp [Instr.field, go_sem]; rfl))
      rotate_left
      · simp only [Act.put, List.setIfInBounds_toArray, List.set_cons_zero, List.set_cons_succ, i64_w, i32_w]; rfl
      refine pu_ (i := 5) (N := some 62) (v := ?_) (a' := ?_) rfl rfl (any_of HT_.out (by kernel_rfl)) (fun _ _ _ h => h) (Or.inl ⟨by rfl, ?_⟩) ?_ ?_; rotate_left
      · intro w'; go_simp; all_goals (first | with_reducible rfl | (simp [Instr.field, go_sem]; rfl))
      rotate_left
      · simp only [Act.put, List.setIfInBounds_toArray, List.set_cons_zero, List.set_cons_succ, i64_w, i32_w]; rfl
      refine ta_ (i := 2) (N := some 59) (v := ?_) (a' := ?_) rfl rfl (take_ofW HT_.out HW_.out (by kernel_rfl)) (fun _ _ _ h => h) (Or.inl ⟨by rfl, ?_⟩) hHeld ?_ ?_; rotate_left
      · rintro w' ⟨s0, s1, s2, s3, s4, s5, s6, s7⟩; go_simp; all_goals (first | with_reducible rfl | (simp [Instr.field, go_sem]; rfl))
      rotate_left
      · simp only [Act.put, List.setIfInBounds_toArray, List.set_cons_zero, List.set_cons_succ, i64_w, i32_w]; rfl
      refine ta_ (i := 6) (N := some 63) (v := ?_) (a' := ?_) rfl rfl (take_ofW HT_.out HW_.out (by kernel_rfl)) (fun _ _ _ h => h) (Or.inl ⟨by rfl, ?_⟩) hHeld ?_ ?_; rotate_left
      · rintro w' ⟨s0, s1, s2, s3, s4, s5, s6, s7⟩; go_simp; all_goals (first | with_reducible rfl | (simp [Instr.field, go_sem]; rfl))
      rotate_left
      · simp only [Act.put, List.setIfInBounds_toArray, List.set_cons_zero, List.set_cons_succ, i64_w, i32_w]; rfl
      refine on_ (i := 3) (N := some 60) rfl rfl (one_of HT_.out (by kernel_rfl)) (by decide) (fun K hK => ?_)
      refine goes_ Try.func96 (by kernel_rfl) rfl #[.int .i64 a0_6] (by rfl) rfl rfl (by (try simp only [List.map_toArray, List.map_cons, List.map_nil]); first | done | rfl | (simp only [List.length_drop, List.length_take]; rfl)) ?_
      with_reducible refine (impl_two.calls a0_6 t357 _ A27.out).mono ?_
      rintro e w45 ⟨v358, rfl, ho0, hb⟩
      refine ⟨_, rfl, ?_⟩
      have n0_ := Aside0.mk (Kd.R_elder' (R_up HO353.out) (Kd.R_base ho0) hb)
      have n1_ := Aside0.mk (Kd.R_elder' (R_up HO356.out) (Kd.R_base ho0) hb)
      have n2_ := Aside0.mk (Kd.R_lower (Kd.R_new' (Kd.R_new' ho0 (Kd.R_lt (R_up HO353.out))) (Kd.R_lt (R_up HO356.out))) (below_size (HB_up HB.out)))
      have n3_ := Aside0.mk (blk_below (g := gb328) (blk_up BK328.out) hb)
      have n4_ := Aside0.mk (below_step (HB_up HB.out) hb)
      clear HO353
      clear HO356
      clear BK328
      clear HB
      have HO353 := n0_
      have HO356 := n1_
      have HO359 := n2_
      have BK328 := n3_
      have HB := n4_
      clear n0_ n1_ n2_ n3_ n4_
      (try clear hb)
      (try clear hb2)
      (try clear hk)
      (try clear hi)
      (try clear ho0)
      obtain ⟨Ao47, co47, eo47⟩ := Kd.R_slice HO359.out
      (first | subst eo47 | (injection eo47 with f1_ f2_ f3_; have f4_ := f1_.symm; have f5_ := f3_.symm; clear f1_ f2_ f3_; subst f4_; subst f5_))
      refine hK.out _ _ ⟨(blk_cell BK328.out 0).trans rfl, (blk_cell BK328.out 1).trans rfl, (blk_cell BK328.out 2).trans rfl, (blk_cell BK328.out 3).trans rfl, (blk_cell BK328.out 4).trans rfl, (blk_cell BK328.out 5).trans rfl, (blk_cell BK328.out 6).trans rfl, (blk_cell BK328.out 7).trans rfl⟩ (fun hHeld => ?_)
      clear hK K
      refine norm_ (a' := ?_) ?_ ?_
      rotate_left
      · show Act.put _ (some 60) _ = _
        simp only [Act.put, List.setIfInBounds_toArray, List.set_cons_zero, List.set_cons_succ, i64_w, i32_w]
        rfl
      refine on_ (i := 4) (N := some 61) rfl rfl (one_of HT_.out (by kernel_rfl)) (by decide) (fun K hK => ?_)
      refine Kd.R_append_rows_step (Kd.int .u8) (w0 := w) w.heap.size (by rfl) (.tmp 57) (.tmp 60) 24 5 (.int .u8 0) 1 rfl Try.underlying24 info5 rfl (by decide) (by omega) v355 y354 t357 _ _ _ (fun k_ => some k_ ≠ (.slice Ao43 y351.length co43 : Value).ownBlock ∧ some k_ ≠ (.slice Ao47 t357.length co47 : Value).ownBlock) (fun _ => False) rfl rfl ?aO ?aR (fun _ _ h => h) (fun _ h => h.elim) ?aF ?aB ?aS ?aL ?_
      (case aR => exact C_up (Kd.R_reads' HO359.out).2.2)
      (case aB => exact (HB_up HB.out))
      (case aF => exact (fun k_ hk => ⟨Kd.fresh' (Kd.R_lt (R_up HO353.out)) k_ hk, Kd.fresh' (Kd.R_lt (R_up HO359.out)) k_ hk⟩))
      (case aO => exact (R_up HO356.out))
      (case aS => exact (below_size (HB_up HB.out)))
      (case aL => have := LMc28.out; omega)
      intro v361 w46 ho hb hg hat
      rw [← Ny360.out] at ho
      have n0_ := Aside0.mk (blk_grown (g := gb328) (blk_up BK328.out) hg (Kd.R_ne HO356.out BK328.out (by decide)))
      have n1_ := Aside0.mk (Kd.R_after (ok := (fun k_ => some k_ ≠ (.slice Ao47 t357.length co47 : Value).ownBlock)) (by (with_reducible repeat (first | apply Kd.R_alloc | apply Kd.R_drewN | apply Kd.R_drew)); exact Kd.R_mono HO353.out (fun _ hk => ⟨hk.2, hk.1.2⟩)) hg hat)
      have n2_ := Aside0.mk (Kd.R_after (ok := (fun k_ => some k_ ≠ (.slice Ao43 y351.length co43 : Value).ownBlock)) (by (with_reducible repeat (first | apply Kd.R_alloc | apply Kd.R_drewN | apply Kd.R_drew)); exact Kd.R_mono HO359.out (fun _ hk => ⟨hk.1.2, hk.2⟩)) hg hat)
      have n3_ := Aside0.mk (hb)
      have n4_ := Aside0.mk (ho)
      clear BK328
      clear HO353
      clear HO359
      clear HB
      clear HO356
      have BK328 := n0_
      have HO353 := n1_
      have HO359 := n2_
      have HB := n3_
      have HO362 := n4_
      clear n0_ n1_ n2_ n3_ n4_
      clear ho hb hg hat
      refine hK.out _ _ ⟨(blk_cell BK328.out 0).trans rfl, (blk_cell BK328.out 1).trans rfl, (blk_cell BK328.out 2).trans rfl, (blk_cell BK328.out 3).trans rfl, (blk_cell BK328.out 4).trans rfl, (blk_cell BK328.out 5).trans rfl, (blk_cell BK328.out 6).trans rfl, (blk_cell BK328.out 7).trans rfl⟩ (fun hHeld => ?_)
      clear hK K
      refine norm_ (a' := ?_) ?_ ?_
      rotate_left
      · show Act.put _ (some 61) _ = _
        simp only [Act.put, List.setIfInBounds_toArray, List.set_cons_zero, List.set_cons_succ, i64_w, i32_w]
        rfl
      refine on_ (i := 7) (N := some 64) rfl rfl (one_of HT_.out (by kernel_rfl)) (by decide) (fun K hK => ?_)
      refine goes_ Try.func88 (by kernel_rfl) rfl #[.slice A0_7 l0_7.length c0_7] (by rfl) rfl rfl (by (try simp only [List.map_toArray, List.map_cons, List.map_nil]); first | done | rfl | (simp only [List.length_drop, List.length_take]; rfl)) ?_
      with_reducible refine (impl_length_byte.calls _ _ l0_7 t363 _ ?side1 ?side2 A29.out).mono ?_
      (case side1 => exact C_up (Kd.C_below HR0_7.out HB.out))
      (case side2 => exact HC0_7.out)
      rintro e w' ⟨rfl, ⟨nd, rfl⟩⟩
      refine ⟨_, rfl, ?_⟩
      refine hK.out _ _ ⟨(blk_cell BK328.out 0).trans rfl, (blk_cell BK328.out 1).trans rfl, (blk_cell BK328.out 2).trans rfl, (blk_cell BK328.out 3).trans rfl, (blk_cell BK328.out 4).trans rfl, (blk_cell BK328.out 5).trans rfl, (blk_cell BK328.out 6).trans rfl, (blk_cell BK328.out 7).trans rfl⟩ (fun hHeld => ?_)
      clear hK K
      refine norm_ (a' := ?_) ?_ ?_
      rotate_left
      · show Act.put _ (some 64) _ = _
        simp only [Act.put, List.setIfInBounds_toArray, List.set_cons_zero, List.set_cons_succ, i64_w, i32_w]
        rfl
      refine on_ (i := 8) (N := some 65) rfl rfl (one_of HT_.out (by kernel_rfl)) (by decide) (fun K hK => ?_)
      refine goes_ Try.func96 (by kernel_rfl) rfl #[.int .i64 t363] (by rfl) rfl rfl (by (try simp only [List.map_toArray, List.map_cons, List.map_nil]); first | done | rfl | (simp only [List.length_drop, List.length_take]; rfl)) ?_
      with_reducible refine (impl_two.calls t363 t364 _ A30.out).mono ?_
      rintro e w48 ⟨v365, rfl, ho0, hb⟩
      refine ⟨_, rfl, ?_⟩
      have n0_ := Aside0.mk (Kd.R_elder' (R_up HO353.out) (Kd.R_base ho0) hb)
      have n1_ := Aside0.mk (Kd.R_elder' (R_up HO359.out) (Kd.R_base ho0) hb)
      have n2_ := Aside0.mk (Kd.R_elder' (R_up HO362.out) (Kd.R_base ho0) hb)
      have n3_ := Aside0.mk (Kd.R_lower (Kd.R_new' (Kd.R_new' (Kd.R_new' ho0 (Kd.R_lt (R_up HO353.out))) (Kd.R_lt (R_up HO359.out))) (Kd.R_lt (R_up HO362.out))) (below_size (HB_up HB.out)))
      have n4_ := Aside0.mk (blk_below (g := gb328) (blk_up BK328.out) hb)
      have n5_ := Aside0.mk (below_step (HB_up HB.out) hb)
      clear HO353
      clear HO359
      clear HO362
      clear BK328
      clear HB
      have HO353 := n0_
      have HO359 := n1_
      have HO362 := n2_
      have HO366 := n3_
      have BK328 := n4_
      have HB := n5_
      clear n0_ n1_ n2_ n3_ n4_ n5_
      (try clear hb)
      (try clear hb2)
      (try clear hk)
      (try clear hi)
      (try clear ho0)
      obtain ⟨Ao50, co50, eo50⟩ := Kd.R_slice HO366.out
      (first | subst eo50 | (injection eo50 with f1_ f2_ f3_; have f4_ := f1_.symm; have f5_ := f3_.symm; clear f1_ f2_ f3_; subst f4_; subst f5_))
      refine hK.out _ _ ⟨(blk_cell BK328.out 0).trans rfl, (blk_cell BK328.out 1).trans rfl, (blk_cell BK328.out 2).trans rfl, (blk_cell BK328.out 3).trans rfl, (blk_cell BK328.out 4).trans rfl, (blk_cell BK328.out 5).trans rfl, (blk_cell BK328.out 6).trans rfl, (blk_cell BK328.out 7).trans rfl⟩ (fun hHeld => ?_)
      clear hK K
      refine norm_ (a' := ?_) ?_ ?_
      rotate_left
      · show Act.put _ (some 65) _ = _
        simp only [Act.put, List.setIfInBounds_toArray, List.set_cons_zero, List.set_cons_succ, i64_w, i32_w]
        rfl
      refine on_ (i := 9) (N := some 66) rfl rfl (one_of HT_.out (by kernel_rfl)) (by decide) (fun K hK => ?_)
      refine Kd.R_append_rows_step (Kd.int .u8) (w0 := w) w.heap.size (by rfl) (.tmp 61) (.tmp 65) 24 5 (.int .u8 0) 1 rfl Try.underlying24 info5 rfl (by decide) (by omega) v361 y360 t364 _ _ _ (fun k_ => some k_ ≠ (.slice Ao43 y351.length co43 : Value).ownBlock ∧ some k_ ≠ (.slice Ao47 t357.length co47 : Value).ownBlock ∧ some k_ ≠ (.slice Ao50 t364.length co50 : Value).ownBlock) (fun _ => False) rfl rfl ?aO ?aR (fun _ _ h => h) (fun _ h => h.elim) ?aF ?aB ?aS ?aL ?_
      (case aR => exact C_up (Kd.R_reads' HO366.out).2.2)
      (case aB => exact (HB_up HB.out))
      (case aF => exact (fun k_ hk => ⟨Kd.fresh' (Kd.R_lt (R_up HO353.out)) k_ hk, Kd.fresh' (Kd.R_lt (R_up HO359.out)) k_ hk, Kd.fresh' (Kd.R_lt (R_up HO366.out)) k_ hk⟩))
      (case aO => exact (by (with_reducible repeat (first | apply Kd.R_alloc | apply Kd.R_drewN | apply Kd.R_drew)); exact Kd.R_mono HO362.out (fun _ hk => ⟨hk.1.1, ⟨hk.1.2, hk.2⟩⟩)))
      (case aS => exact (below_size (HB_up HB.out)))
      (case aL => have := LMc31.out; omega)
      intro v368 w49 ho hb hg hat
      rw [← Ny367.out] at ho
      have n0_ := Aside0.mk (blk_grown (g := gb328) (blk_up BK328.out) hg (Kd.R_ne HO362.out BK328.out (by decide)))
      have n1_ := Aside0.mk (Kd.R_after (ok := (fun k_ => some k_ ≠ (.slice Ao47 t357.length co47 : Value).ownBlock ∧ some k_ ≠ (.slice Ao50 t364.length co50 : Value).ownBlock)) (by (with_reducible repeat (first | apply Kd.R_alloc | apply Kd.R_drewN | apply Kd.R_drew)); exact Kd.R_mono HO353.out (fun _ hk => ⟨⟨hk.1.1, hk.2⟩, hk.1.2⟩)) hg hat)
      have n2_ := Aside0.mk (Kd.R_after (ok := (fun k_ => some k_ ≠ (.slice Ao43 y351.length co43 : Value).ownBlock ∧ some k_ ≠ (.slice Ao50 t364.length co50 : Value).ownBlock)) (by (with_reducible repeat (first | apply Kd.R_alloc | apply Kd.R_drewN | apply Kd.R_drew)); exact Kd.R_mono HO359.out (fun _ hk => ⟨⟨hk.1.1, hk.2⟩, hk.1.2⟩)) hg hat)
      have n3_ := Aside0.mk (Kd.R_after (ok := (fun k_ => some k_ ≠ (.slice Ao43 y351.length co43 : Value).ownBlock ∧ some k_ ≠ (.slice Ao47 t357.length co47 : Value).ownBlock)) (by (with_reducible repeat (first | apply Kd.R_alloc | apply Kd.R_drewN | apply Kd.R_drew)); exact Kd.R_mono HO366.out (fun _ hk => ⟨⟨hk.1.1.2, hk.1.2⟩, hk.2⟩)) hg hat)
      have n4_ := Aside0.mk (hb)
      have n5_ := Aside0.mk (ho)
      clear BK328
      clear HO353
      clear HO359
      clear HO366
      clear HB
      clear HO362
      have BK328 := n0_
      have HO353 := n1_
      have HO359 := n2_
      have HO366 := n3_
      have HB := n4_
      have HO369 := n5_
      clear n0_ n1_ n2_ n3_ n4_ n5_
      clear ho hb hg hat
      refine hK.out _ _ ⟨(blk_cell BK328.out 0).trans rfl, (blk_cell BK328.out 1).trans rfl, (blk_cell BK328.out 2).trans rfl, (blk_cell BK328.out 3).trans rfl, (blk_cell BK328.out 4).trans rfl, (blk_cell BK328.out 5).trans rfl, (blk_cell BK328.out 6).trans rfl, (blk_cell BK328.out 7).trans rfl⟩ (fun hHeld => ?_)
      clear hK K
      refine norm_ (a' := ?_) ?_ ?_
      rotate_left
      · show Act.put _ (some 66) _ = _
        simp only [Act.put, List.setIfInBounds_toArray, List.set_cons_zero, List.set_cons_succ, i64_w, i32_w]
        rfl
      refine pu_ (i := 10) (N := some 3) (v := ?_) (a' := ?_) rfl rfl (any_of HT_.out (by kernel_rfl)) (fun _ _ _ h => h) (Or.inl ⟨by rfl, ?_⟩) ?_ ?_; rotate_left
      · intro w'; go_simp; all_goals (first | with_reducible rfl | (simp [Instr.field, go_sem]; rfl))
      rotate_left
      · simp only [Act.put, List.setIfInBounds_toArray, List.set_cons_zero, List.set_cons_succ, i64_w, i32_w]; rfl
      refine done_ (done_of HT_.out (by kernel_rfl)) ?_
      obtain ⟨_, _, _, _, _, _, _, _⟩ := blk_cells8 BK328.out
      obtain ⟨_, _, _, _, _, _, _, _⟩ := blk_frozen8 BK328.out
      try go_wp2_with (first | ((with_reducible refine gate_builtin (b := .append) (xs := #[.tmp 67, .tmp 69]) rfl ?_); at_builtin; refine Kd.R_append_rows (Kd.int .u8) (w0 := w) w.heap.size rfl (.tmp 67) (.tmp 69) 24 5 (.int .u8 0) 1 rfl Try.underlying24 info5 rfl (by decide) (by omega) v368 y367 l0_7 _ _ _ (fun k_ => some k_ ≠ (.slice Ao43 y351.length co43 : Value).ownBlock ∧ some k_ ≠ (.slice Ao47 t357.length co47 : Value).ownBlock ∧ some k_ ≠ (.slice Ao50 t364.length co50 : Value).ownBlock) (fun _ => False) rfl rfl ?aO ?aR (fun _ _ h => h) (fun _ h => h.elim) ?aF ?aB ?aS ?aL ?_; (case aR => exact C_up (Kd.C_below HR0_7.out HB.out)); (case aB => exact (HB_up HB.out)); (case aF => exact (fun k_ hk => ⟨Kd.fresh' (Kd.R_lt (R_up HO353.out)) k_ hk, Kd.fresh' (Kd.R_lt (R_up HO359.out)) k_ hk, Kd.fresh' (Kd.R_lt (R_up HO366.out)) k_ hk⟩)); (case aO => exact (R_up HO369.out)); (case aS => exact (below_size (HB_up HB.out))); (case aL => have := LMc32.out; omega); intro v371 w52 ho hb hg hat; rw [← Ny370.out] at ho; have n0_ := Aside0.mk (blk_grown (g := gb328) (blk_up BK328.out) hg (Kd.R_ne HO369.out BK328.out (by decide))); have n1_ := Aside0.mk (Kd.R_after (ok := (fun k_ => some k_ ≠ (.slice Ao47 t357.length co47 : Value).ownBlock ∧ some k_ ≠ (.slice Ao50 t364.length co50 : Value).ownBlock)) (R_up HO353.out) hg hat); have n2_ := Aside0.mk (Kd.R_after (ok := (fun k_ => some k_ ≠ (.slice Ao43 y351.length co43 : Value).ownBlock ∧ some k_ ≠ (.slice Ao50 t364.length co50 : Value).ownBlock)) (R_up HO359.out) hg hat); have n3_ := Aside0.mk (Kd.R_after (ok := (fun k_ => some k_ ≠ (.slice Ao43 y351.length co43 : Value).ownBlock ∧ some k_ ≠ (.slice Ao47 t357.length co47 : Value).ownBlock)) (R_up HO366.out) hg hat); have n4_ := Aside0.mk (hb); have n5_ := Aside0.mk (ho); clear BK328; clear HO353; clear HO359; clear HO366; clear HB; clear HO369; have BK328 := n0_; have HO353 := n1_; have HO359 := n2_; have HO366 := n3_; have HB := n4_; have HO372 := n5_; clear n0_ n1_ n2_ n3_ n4_ n5_; clear ho hb hg hat; obtain ⟨Ao53, co53, eo53⟩ := Kd.R_slice HO372.out; subst eo53) | ((with_reducible refine gate_callee (f := 88) rfl ?_); refine goesY_ (some 72) Try.func88 #[.slice Ao53 y370.length co53] rfl ?_; (with_reducible refine (impl_length_byte.calls _ _ y370 t373 _ ?_ ?_ A33.out).mono ?_); exact C_up (Kd.R_reads' HO372.out).2.2; exact (Kd.R_reads' HO372.out).2.1; rintro e w' ⟨rfl, ⟨nd, rfl⟩⟩; refine ⟨_, rfl, ?_⟩) | ((with_reducible refine gate_callee (f := 96) rfl ?_); refine goesY_ (some 74) Try.func96 #[.int .i64 (wrap64 (t373 + 4))] rfl ?_; (with_reducible refine (impl_two.calls (wrap64 (t373 + 4)) t374 _ A34.out).mono ?_); rintro e w54 ⟨v375, rfl, ho0, hb⟩; refine ⟨_, rfl, ?_⟩; have n0_ := Aside0.mk (Kd.R_elder' (R_up HO353.out) (Kd.R_base ho0) hb); have n1_ := Aside0.mk (Kd.R_elder' (R_up HO359.out) (Kd.R_base ho0) hb); have n2_ := Aside0.mk (Kd.R_elder' (R_up HO366.out) (Kd.R_base ho0) hb); have n3_ := Aside0.mk (Kd.R_elder' (R_up HO372.out) (Kd.R_base ho0) hb); have n4_ := Aside0.mk (Kd.R_lower (Kd.R_new' (Kd.R_new' (Kd.R_new' (Kd.R_new' ho0 (Kd.R_lt (R_up HO353.out))) (Kd.R_lt (R_up HO359.out))) (Kd.R_lt (R_up HO366.out))) (Kd.R_lt (R_up HO372.out))) (below_size (HB_up HB.out))); have n5_ := Aside0.mk (blk_below (g := gb328) (blk_up BK328.out) hb); have n6_ := Aside0.mk (below_step (HB_up HB.out) hb); clear HO353; clear HO359; clear HO366; clear HO372; clear BK328; clear HB; have HO353 := n0_; have HO359 := n1_; have HO366 := n2_; have HO372 := n3_; have HO376 := n4_; have BK328 := n5_; have HB := n6_; clear n0_ n1_ n2_ n3_ n4_ n5_ n6_; (try clear hb); (try clear hb2); (try clear hk); (try clear hi); (try clear ho0)) | ((with_reducible refine gate_builtin (b := .append) (xs := #[.tmp 74, .tmp 75]) rfl ?_); at_builtin; refine Kd.R_append_rows (Kd.int .u8) (w0 := w) w.heap.size rfl (.tmp 74) (.tmp 75) 24 5 (.int .u8 0) 1 rfl Try.underlying24 info5 rfl (by decide) (by omega) v375 t374 y370 _ _ _ (fun k_ => some k_ ≠ (.slice Ao43 y351.length co43 : Value).ownBlock ∧ some k_ ≠ (.slice Ao47 t357.length co47 : Value).ownBlock ∧ some k_ ≠ (.slice Ao50 t364.length co50 : Value).ownBlock ∧ some k_ ≠ (.slice Ao53 y370.length co53 : Value).ownBlock) (fun _ => False) rfl rfl ?aO ?aR (fun _ _ h => h) (fun _ h => h.elim) ?aF ?aB ?aS ?aL ?_; (case aR => exact C_up (Kd.R_reads' HO372.out).2.2); (case aB => exact (HB_up HB.out)); (case aF => exact (fun k_ hk => ⟨Kd.fresh' (Kd.R_lt (R_up HO353.out)) k_ hk, Kd.fresh' (Kd.R_lt (R_up HO359.out)) k_ hk, Kd.fresh' (Kd.R_lt (R_up HO366.out)) k_ hk, Kd.fresh' (Kd.R_lt (R_up HO372.out)) k_ hk⟩)); (case aO => exact (by (with_reducible repeat (first | apply Kd.R_alloc | apply Kd.R_drewN | apply Kd.R_drew)); exact Kd.R_mono HO376.out (fun _ hk => ⟨hk.1.1.1.2, ⟨hk.1.1.2, ⟨hk.1.2, hk.2⟩⟩⟩))); (case aS => exact (below_size (HB_up HB.out))); (case aL => have := LMc35.out; omega); intro v378 w55 ho hb hg hat; rw [← Ny377.out] at ho; have n0_ := Aside0.mk (blk_grown (g := gb328) (blk_up BK328.out) hg (Kd.R_ne HO376.out BK328.out (by decide))); have n1_ := Aside0.mk (Kd.R_after (ok := (fun k_ => some k_ ≠ (.slice Ao47 t357.length co47 : Value).ownBlock ∧ some k_ ≠ (.slice Ao50 t364.length co50 : Value).ownBlock ∧ some k_ ≠ (.slice Ao53 y370.length co53 : Value).ownBlock)) (by (with_reducible repeat (first | apply Kd.R_alloc | apply Kd.R_drewN | apply Kd.R_drew)); exact Kd.R_mono HO353.out (fun _ hk => ⟨⟨hk.1.1.1, ⟨hk.1.1.2, hk.1.2⟩⟩, hk.2⟩)) hg hat); have n2_ := Aside0.mk (Kd.R_after (ok := (fun k_ => some k_ ≠ (.slice Ao43 y351.length co43 : Value).ownBlock ∧ some k_ ≠ (.slice Ao50 t364.length co50 : Value).ownBlock ∧ some k_ ≠ (.slice Ao53 y370.length co53 : Value).ownBlock)) (by (with_reducible repeat (first | apply Kd.R_alloc | apply Kd.R_drewN | apply Kd.R_drew)); exact Kd.R_mono HO359.out (fun _ hk => ⟨⟨hk.1.1.1, ⟨hk.1.1.2, hk.1.2⟩⟩, hk.2⟩)) hg hat); have n3_ := Aside0.mk (Kd.R_after (ok := (fun k_ => some k_ ≠ (.slice Ao43 y351.length co43 : Value).ownBlock ∧ some k_ ≠ (.slice Ao47 t357.length co47 : Value).ownBlock ∧ some k_ ≠ (.slice Ao53 y370.length co53 : Value).ownBlock)) (by (with_reducible repeat (first | apply Kd.R_alloc | apply Kd.R_drewN | apply Kd.R_drew)); exact Kd.R_mono HO366.out (fun _ hk => ⟨⟨hk.1.1.1, ⟨hk.1.1.2, hk.1.2⟩⟩, hk.2⟩)) hg hat); have n4_ := Aside0.mk (Kd.R_after (ok := (fun k_ => some k_ ≠ (.slice Ao43 y351.length co43 : Value).ownBlock ∧ some k_ ≠ (.slice Ao47 t357.length co47 : Value).ownBlock ∧ some k_ ≠ (.slice Ao50 t364.length co50 : Value).ownBlock)) (R_up HO372.out) hg hat); have n5_ := Aside0.mk (hb); have n6_ := Aside0.mk (ho); clear BK328; clear HO353; clear HO359; clear HO366; clear HO372; clear HB; clear HO376; have BK328 := n0_; have HO353 := n1_; have HO359 := n2_; have HO366 := n3_; have HO372 := n4_; have HB := n5_; have HO379 := n6_; clear n0_ n1_ n2_ n3_ n4_ n5_ n6_; clear ho hb hg hat; obtain ⟨Ao56, co56, eo56⟩ := Kd.R_slice HO379.out; subst eo56) | ((with_reducible refine gate_callee (f := 97) rfl ?_); refine goesY_ (some 79) Try.func97 #[.slice Ao56 y377.length co56] rfl ?_; (with_reducible refine (impl_sumOf.calls k1 _ _ y377 t380 _ ?_ ?_ A36.out).mono ?_); exact C_up (Kd.R_reads' HO379.out).2.2; exact (Kd.R_reads' HO379.out).2.1; rintro e w' ⟨rfl, ⟨nd, rfl⟩⟩; refine ⟨_, rfl, ?_⟩) | ((with_reducible refine gate_callee (f := 96) rfl ?_); refine goesY_ (some 80) Try.func96 #[.int .i64 t380] rfl ?_; (with_reducible refine (impl_two.calls t380 t381 _ A37.out).mono ?_); rintro e w57 ⟨v382, rfl, ho0, hb⟩; refine ⟨_, rfl, ?_⟩; have n0_ := Aside0.mk (Kd.R_elder' (R_up HO353.out) (Kd.R_base ho0) hb); have n1_ := Aside0.mk (Kd.R_elder' (R_up HO359.out) (Kd.R_base ho0) hb); have n2_ := Aside0.mk (Kd.R_elder' (R_up HO366.out) (Kd.R_base ho0) hb); have n3_ := Aside0.mk (Kd.R_elder' (R_up HO372.out) (Kd.R_base ho0) hb); have n4_ := Aside0.mk (Kd.R_elder' (R_up HO379.out) (Kd.R_base ho0) hb); have n5_ := Aside0.mk (Kd.R_lower (Kd.R_new' (Kd.R_new' (Kd.R_new' (Kd.R_new' (Kd.R_new' ho0 (Kd.R_lt (R_up HO353.out))) (Kd.R_lt (R_up HO359.out))) (Kd.R_lt (R_up HO366.out))) (Kd.R_lt (R_up HO372.out))) (Kd.R_lt (R_up HO379.out))) (below_size (HB_up HB.out))); have n6_ := Aside0.mk (blk_below (g := gb328) (blk_up BK328.out) hb); have n7_ := Aside0.mk (below_step (HB_up HB.out) hb); clear HO353; clear HO359; clear HO366; clear HO372; clear HO379; clear BK328; clear HB; have HO353 := n0_; have HO359 := n1_; have HO366 := n2_; have HO372 := n3_; have HO379 := n4_; have HO383 := n5_; have BK328 := n6_; have HB := n7_; clear n0_ n1_ n2_ n3_ n4_ n5_ n6_ n7_; (try clear hb); (try clear hb2); (try clear hk); (try clear hi); (try clear ho0); obtain ⟨Ao59, co59, eo59⟩ := Kd.R_slice HO383.out; subst eo59) | ((with_reducible refine gate_builtin (b := .append) (xs := #[.tmp 77, .tmp 80]) rfl ?_); at_builtin; refine Kd.R_append_rows (Kd.int .u8) (w0 := w) w.heap.size rfl (.tmp 77) (.tmp 80) 24 5 (.int .u8 0) 1 rfl Try.underlying24 info5 rfl (by decide) (by omega) (.slice Ao56 y377.length co56) y377 t381 _ _ _ (fun k_ => some k_ ≠ (.slice Ao43 y351.length co43 : Value).ownBlock ∧ some k_ ≠ (.slice Ao47 t357.length co47 : Value).ownBlock ∧ some k_ ≠ (.slice Ao50 t364.length co50 : Value).ownBlock ∧ some k_ ≠ (.slice Ao53 y370.length co53 : Value).ownBlock ∧ some k_ ≠ (.slice Ao59 t381.length co59 : Value).ownBlock) (fun _ => False) rfl rfl ?aO ?aR (fun _ _ h => h) (fun _ h => h.elim) ?aF ?aB ?aS ?aL ?_; (case aR => exact C_up (Kd.R_reads' HO383.out).2.2); (case aB => exact (HB_up HB.out)); (case aF => exact (fun k_ hk => ⟨Kd.fresh' (Kd.R_lt (R_up HO353.out)) k_ hk, Kd.fresh' (Kd.R_lt (R_up HO359.out)) k_ hk, Kd.fresh' (Kd.R_lt (R_up HO366.out)) k_ hk, Kd.fresh' (Kd.R_lt (R_up HO372.out)) k_ hk, Kd.fresh' (Kd.R_lt (R_up HO383.out)) k_ hk⟩)); (case aO => exact (by (with_reducible repeat (first | apply Kd.R_alloc | apply Kd.R_drewN | apply Kd.R_drew)); exact Kd.R_mono HO379.out (fun _ hk => ⟨hk.1.1, ⟨hk.1.2.1, ⟨hk.1.2.2.1, ⟨hk.1.2.2.2, hk.2⟩⟩⟩⟩))); (case aS => exact (below_size (HB_up HB.out))); (case aL => have := LMc38.out; omega); intro v385 w58 ho hb hg hat; rw [← Ny384.out] at ho; have n0_ := Aside0.mk (blk_grown (g := gb328) (blk_up BK328.out) hg (Kd.R_ne HO379.out BK328.out (by decide))); have n1_ := Aside0.mk (Kd.R_after (ok := (fun k_ => some k_ ≠ (.slice Ao47 t357.length co47 : Value).ownBlock ∧ some k_ ≠ (.slice Ao50 t364.length co50 : Value).ownBlock ∧ some k_ ≠ (.slice Ao53 y370.length co53 : Value).ownBlock ∧ some k_ ≠ (.slice Ao59 t381.length co59 : Value).ownBlock)) (by (with_reducible repeat (first | apply Kd.R_alloc | apply Kd.R_drewN | apply Kd.R_drew)); exact Kd.R_mono HO353.out (fun _ hk => ⟨⟨hk.1.1.1, ⟨hk.1.1.2.1, ⟨hk.1.1.2.2, hk.2⟩⟩⟩, hk.1.2⟩)) hg hat); have n2_ := Aside0.mk (Kd.R_after (ok := (fun k_ => some k_ ≠ (.slice Ao43 y351.length co43 : Value).ownBlock ∧ some k_ ≠ (.slice Ao50 t364.length co50 : Value).ownBlock ∧ some k_ ≠ (.slice Ao53 y370.length co53 : Value).ownBlock ∧ some k_ ≠ (.slice Ao59 t381.length co59 : Value).ownBlock)) (by (with_reducible repeat (first | apply Kd.R_alloc | apply Kd.R_drewN | apply Kd.R_drew)); exact Kd.R_mono HO359.out (fun _ hk => ⟨⟨hk.1.1.1, ⟨hk.1.1.2.1, ⟨hk.1.1.2.2, hk.2⟩⟩⟩, hk.1.2⟩)) hg hat); have n3_ := Aside0.mk (Kd.R_after (ok := (fun k_ => some k_ ≠ (.slice Ao43 y351.length co43 : Value).ownBlock ∧ some k_ ≠ (.slice Ao47 t357.length co47 : Value).ownBlock ∧ some k_ ≠ (.slice Ao53 y370.length co53 : Value).ownBlock ∧ some k_ ≠ (.slice Ao59 t381.length co59 : Value).ownBlock)) (by (with_reducible repeat (first | apply Kd.R_alloc | apply Kd.R_drewN | apply Kd.R_drew)); exact Kd.R_mono HO366.out (fun _ hk => ⟨⟨hk.1.1.1, ⟨hk.1.1.2.1, ⟨hk.1.1.2.2, hk.2⟩⟩⟩, hk.1.2⟩)) hg hat); have n4_ := Aside0.mk (Kd.R_after (ok := (fun k_ => some k_ ≠ (.slice Ao43 y351.length co43 : Value).ownBlock ∧ some k_ ≠ (.slice Ao47 t357.length co47 : Value).ownBlock ∧ some k_ ≠ (.slice Ao50 t364.length co50 : Value).ownBlock ∧ some k_ ≠ (.slice Ao59 t381.length co59 : Value).ownBlock)) (by (with_reducible repeat (first | apply Kd.R_alloc | apply Kd.R_drewN | apply Kd.R_drew)); exact Kd.R_mono HO372.out (fun _ hk => ⟨⟨hk.1.1.1, ⟨hk.1.1.2.1, ⟨hk.1.1.2.2, hk.2⟩⟩⟩, hk.1.2⟩)) hg hat); have n5_ := Aside0.mk (Kd.R_after (ok := (fun k_ => some k_ ≠ (.slice Ao43 y351.length co43 : Value).ownBlock ∧ some k_ ≠ (.slice Ao47 t357.length co47 : Value).ownBlock ∧ some k_ ≠ (.slice Ao50 t364.length co50 : Value).ownBlock ∧ some k_ ≠ (.slice Ao53 y370.length co53 : Value).ownBlock)) (by (with_reducible repeat (first | apply Kd.R_alloc | apply Kd.R_drewN | apply Kd.R_drew)); exact Kd.R_mono HO383.out (fun _ hk => ⟨⟨hk.1.1.1.1.2, ⟨hk.1.1.1.2, ⟨hk.1.1.2, hk.1.2⟩⟩⟩, hk.2⟩)) hg hat); have n6_ := Aside0.mk (hb); have n7_ := Aside0.mk (ho); clear BK328; clear HO353; clear HO359; clear HO366; clear HO372; clear HO383; clear HB; clear HO379; have BK328 := n0_; have HO353 := n1_; have HO359 := n2_; have HO366 := n3_; have HO372 := n4_; have HO383 := n5_; have HB := n6_; have HO386 := n7_; clear n0_ n1_ n2_ n3_ n4_ n5_ n6_ n7_; clear ho hb hg hat))
      go_ret
      exact ⟨_, ve_, by (with_reducible repeat (first | apply Kd.R_alloc | apply Kd.R_drewN | apply Kd.R_drew)); exact Kd.R_mono HO386.out (fun _ hk => trivial), hs_⟩
 · rw [if_neg c2] at H
   exact absurd H (by simp)

/-- A state of type 99 at block g of W; what its slices lead to came in by w0. -/
def IsS99 (w0 W : World) (g : Nat) (f0 : List Int) (f1 : Bool) : Prop := ∃ A0 c0, W.heap[g]? = some (.cells #[.slice A0 f0.length c0, .bool f1] 99 (0, 0)) ∧ w0.heap.size ≤ g ∧ Kd.C (Kd.int .u8) w0 A0 f0.length f0 ∧ f0.length ≤ c0
theorem IsS99.grown {w0 W : World} {g : Nat} {f0 : List Int} {f1 : Bool} {W1 : World} {row : Option Nat} (h : IsS99 w0 W g f0 f1) (hw : W.grownBy W1 row) (hne : some g ≠ row) : IsS99 w0 W1 g f0 f1 := by
 obtain ⟨A0, c0, hb, hg, hr0, hq0⟩ := h
 exact ⟨A0, c0, blk_grown hb hw hne, hg, hr0, hq0⟩
theorem IsS99.own_neN {w0 W : World} {g : Nat} {f0 : List Int} {f1 : Bool} {α : Type} {d : Kd α} {e : Nat} {base : Nat} {ok : Nat → Prop} {v : Value} {xs : List α} (h : IsS99 w0 W g f0 f1) (ho : Kd.N d e W base ok v xs) (ht : e ≠ 99) : some g ≠ v.ownBlock := by
 obtain ⟨A0, c0, hb, hg, hr0, hq0⟩ := h
 exact Kd.N_ne ho hb ht
theorem IsS99.fresh {w0 W : World} {g : Nat} {f0 : List Int} {f1 : Bool} (h : IsS99 w0 W g f0 f1) : ∀ k, W.heap.size ≤ k → k ≠ g := by
 obtain ⟨A0, c0, hb, hg, hr0, hq0⟩ := h
 exact Kd.freshB hb
theorem IsS99.kept {w0 W : World} {g : Nat} {f0 : List Int} {f1 : Bool} {W1 : World} {S : Nat → Prop} (h : IsS99 w0 W g f0 f1) (hk : Kept W W1 S) (hne : ¬ S g) : IsS99 w0 W1 g f0 f1 := by
 obtain ⟨A0, c0, hb, hg, hr0, hq0⟩ := h
 exact ⟨A0, c0, blk_kept hb hk hne, hg, hr0, hq0⟩
theorem IsS99.below {w0 W : World} {g : Nat} {f0 : List Int} {f1 : Bool} {W1 : World} (h : IsS99 w0 W g f0 f1) (hw : Below W.heap.size W W1) : IsS99 w0 W1 g f0 f1 := h.grown (grown_of_below hw none) (by simp)
theorem IsS99.alloc {w0 W : World} {g : Nat} {f0 : List Int} {f1 : Bool} (h : IsS99 w0 W g f0 f1) (o : Obj) : IsS99 w0 (W.alloc o) g f0 f1 := h.below (below_alloc (Below.refl _ _) o)
theorem IsS99.drewN {w0 W : World} {g : Nat} {f0 : List Int} {f1 : Bool} (h : IsS99 w0 W g f0 f1) (m : Nat) : IsS99 w0 (W.drewN m) g f0 f1 := h
theorem IsS99.drew {w0 W : World} {g : Nat} {f0 : List Int} {f1 : Bool} (h : IsS99 w0 W g f0 f1) : IsS99 w0 W.drew g f0 f1 := h
theorem IsS99.at_ {w0 W : World} {g : Nat} {f0 : List Int} {f1 : Bool} {w' : World} {m : Nat} (hq : W.drewN m = w') (h : IsS99 w0 W g f0 f1) : IsS99 w0 w' g f0 f1 := by subst hq; exact IsS99.drewN h m
theorem IsS99.apart {w0 W : World} {g : Nat} {f0 : List Int} {f1 : Bool} {α : Type} {d : Kd α} {e : Nat} {base : Nat} {ok : Nat → Prop} {v : Value} {xs : List α} (h : IsS99 w0 W g f0 f1) (ho : d.R e W base ok v xs) (ht : ∀ q, q ∈ e :: d.E → q ≠ 99) : d.R e W base (fun k => ok k ∧ k ≠ g) v xs := by
 obtain ⟨A0, c0, hb, hg, hr0, hq0⟩ := h
 exact Kd.R_types ho hb ht
theorem IsS99.own_ne {w0 W : World} {g : Nat} {f0 : List Int} {f1 : Bool} {α : Type} {d : Kd α} {e : Nat} {base : Nat} {ok : Nat → Prop} {v : Value} {xs : List α} (h : IsS99 w0 W g f0 f1) (ho : d.R e W base ok v xs) (ht : e ≠ 99) : some g ≠ v.ownBlock := by
 obtain ⟨A0, c0, hb, hg, hr0, hq0⟩ := h
 exact Kd.R_ne ho hb ht
theorem IsS99.apartQ {w0 W : World} {g : Nat} {f0 : List Int} {f1 : Bool} {α : Type} {d : Kd α} {e : Nat} {base : Nat} {ok : Nat → Prop} {v : Value} {xs : List α} (h : IsS99 w0 W g f0 f1) (ho : d.Q e W base ok v xs) (ht : ∀ q, q ∈ e :: d.E → q ≠ 99) : d.Q e W base (fun k => ok k ∧ k ≠ g) v xs := by
 obtain ⟨A0, c0, hb, hg, hr0, hq0⟩ := h
 exact Kd.Q_types ho hb ht
theorem IsS99.own_neQ {w0 W : World} {g : Nat} {f0 : List Int} {f1 : Bool} {α : Type} {d : Kd α} {e : Nat} {base : Nat} {ok : Nat → Prop} {v : Value} {xs : List α} (h : IsS99 w0 W g f0 f1) (ho : d.Q e W base ok v xs) (ht : e ≠ 99) : some g ≠ v.ownBlock := by
 obtain ⟨A0, c0, hb, hg, hr0, hq0⟩ := h
 exact Kd.Q_ne ho hb ht
theorem IsS99.apartS {w0 W : World} {g : Nat} {f0 : List Int} {f1 : Bool} {α : Type} {d : Kd α} {e : Nat} {base : Nat} {ok : Nat → Prop} {v : Value} {xs : List α} (h : IsS99 w0 W g f0 f1) (ho : d.S e W base ok v xs) (ht : ∀ q, q ∈ e :: d.E → q ≠ 99) : d.S e W base (fun k => ok k ∧ k ≠ g) v xs := by
 obtain ⟨A0, c0, hb, hg, hr0, hq0⟩ := h
 exact Kd.S_types ho hb ht
theorem IsS99.own_neS {w0 W : World} {g : Nat} {f0 : List Int} {f1 : Bool} {α : Type} {d : Kd α} {e : Nat} {base : Nat} {ok : Nat → Prop} {v : Value} {xs : List α} (h : IsS99 w0 W g f0 f1) (ho : d.S e W base ok v xs) (ht : e ≠ 99) : some g ≠ v.ownBlock := by
 obtain ⟨A0, c0, hb, hg, hr0, hq0⟩ := h
 exact Kd.S_ne ho hb ht
theorem IsS99.lt {w0 W : World} {g : Nat} {f0 : List Int} {f1 : Bool} (h : IsS99 w0 W g f0 f1) : g < W.heap.size := by
 obtain ⟨A0, c0, hb, hg, hr0, hq0⟩ := h
 exact blk_lt hb
theorem IsS99.ge {w0 W : World} {g : Nat} {f0 : List Int} {f1 : Bool} (h : IsS99 w0 W g f0 f1) : w0.heap.size ≤ g := by
 obtain ⟨A0, c0, hb, hg, hr0, hq0⟩ := h
 exact hg
theorem IsS99.ne_blk {w0 W : World} {g : Nat} {f0 : List Int} {f1 : Bool} {a : Nat} {cs : Array Value} {t : TypeId} {fr : Nat × Nat} (h : IsS99 w0 W g f0 f1) (hb2 : W.heap[a]? = some (.cells cs t fr)) (ht : t ≠ 99) : g ≠ a := by
 obtain ⟨A0, c0, hb, hg, hr0, hq0⟩ := h
 rintro rfl
 rw [hb] at hb2
 injection hb2 with hb2
 injection hb2 with _ ht2
 exact ht ht2.symm
theorem IsS99.far {w0 W : World} {g : Nat} {f0 : List Int} {f1 : Bool} {p : Addr} (h : IsS99 w0 W g f0 f1) (hne : g ≠ p.block) (u : Value) : IsS99 w0 (W.setCell p u) g f0 f1 := by
 obtain ⟨A0, c0, hb, hg, hr0, hq0⟩ := h
 exact ⟨A0, c0, blk_far hb hne u, hg, hr0, hq0⟩
theorem cellS99_0 {W : World} {g : Nat} {A0 : Option Addr} {c0 : Nat} {f0 : List Int} {f1 : Bool} (h : W.heap[g]? = some (.cells #[.slice A0 f0.length c0, .bool f1] 99 (0, 0))) : W.cell? ⟨g, 0, none⟩ = some (.slice A0 f0.length c0) := (blk_cell h 0).trans rfl
theorem cellS99_1 {W : World} {g : Nat} {A0 : Option Addr} {c0 : Nat} {f0 : List Int} {f1 : Bool} (h : W.heap[g]? = some (.cells #[.slice A0 f0.length c0, .bool f1] 99 (0, 0))) : W.cell? ⟨g, 1, none⟩ = some (.bool f1) := (blk_cell h 1).trans rfl
theorem IsS99.set_1 {w0 W : World} {g : Nat} {f0 : List Int} {f1 : Bool} (h : IsS99 w0 W g f0 f1) (x : Bool) : IsS99 w0 (W.setCell ⟨g, 1, none⟩ (.bool x)) g f0 x := by
 obtain ⟨A0, c0, hb, hg, hr0, hq0⟩ := h
 exact ⟨A0, c0, by simpa using blk_set hb 1 (.bool x), hg, hr0, hq0⟩
theorem IsS99.sl_0 {w0 W : World} {g : Nat} {f0 : List Int} {f1 : Bool} (h : IsS99 w0 W g f0 f1) {A : Option Addr} {c : Nat} {x : List Int} (hr : Kd.C (Kd.int .u8) w0 A x.length x) (hq : x.length ≤ c) {n : Nat} (hn : x.length = n) : IsS99 w0 (W.setCell ⟨g, 0, none⟩ (.slice A n c)) g x f1 := by
 subst hn
 obtain ⟨A0, c0, hb, hg, hr0, hq0⟩ := h
 exact ⟨A, c, by simpa using blk_set hb 0 (.slice A x.length c), hg, hr, hq⟩
theorem IsS99.new (w0 W : World) (A0 : Option Addr) (c0 : Nat) (f0 : List Int) (f1 : Bool) (hB : Below w0.heap.size w0 W) (hr0 : Kd.C (Kd.int .u8) w0 A0 f0.length f0) (hq0 : f0.length ≤ c0) : IsS99 w0 (W.alloc (.cells #[.slice A0 f0.length c0, .bool f1] 99)) W.heap.size f0 f1 := ⟨A0, c0, by simpa using heap_alloc_new W _, hB.size, hr0, hq0⟩

/-! ### impl_taker_take: function 90 -/
def impl_taker_take.f (s0_0 : List Int) (s0_1 : Bool) (a1 : Int) : Option (List Int × List Int × Bool) := if 0 ≤ a1 ∧ a1 ≤ 100000 then (if s0_1 = true ∨ (s0_0.length : Int) < a1 then some (List.replicate a1.toNat 0, s0_0, true) else some (s0_0.take a1.toNat, s0_0.drop a1.toNat, false)) else none
set_option maxHeartbeats 8000000 in
set_option maxRecDepth 100000 in
theorem impl_taker_take.calls (g : Nat) (s0_0 : List Int) (s0_1 : Bool) (a1 : Int) (r1 : List Int) (r2 : List Int) (r3 : Bool) (w0 w : World) (hI : IsS99 w0 w g s0_0 s0_1) (hB : Below w0.heap.size w0 w) (h : impl_taker_take.f s0_0 s0_1 a1 = some (r1, r2, r3)) :
 Calls Try.prog 90 #[.pointer (some ⟨g, 0, none⟩), .int .i64 a1] w fun e w' => ∃ v0_ : Value, e = .returned (v0_) ∧ (∃ A c, v0_ = .slice A r1.length c ∧ Kd.C (Kd.int .u8) w' A r1.length r1 ∧ r1.length ≤ c) ∧ IsS99 w0 w' g r2 r3 ∧ Below w0.heap.size w0 w' ∧ KeepBut w w' g none := by
 unfold impl_taker_take.f at h
 by_cases hn : 0 ≤ a1 ∧ a1 ≤ 100000
 case neg => rw [if_neg hn] at h; exact absurd h (by simp)
 rw [if_pos hn] at h
 have HN0 := Aside0.mk hn.1
 have HN1 := Aside0.mk hn.2
 clear hn
 have HI := Aside0.mk hI
 have HB := Aside0.mk hB
 have HK := Aside0.mk (KeepBut.refl w g none)
 obtain ⟨A0, c0, hg0, hge, hr0, hq0⟩ := hI
 have hcz0 := cellS99_0 hg0
 have hcz1 := cellS99_1 hg0
 have hfz0 := blk_frozen hg0 0
 have hfz1 := blk_frozen hg0 1
 clear hg0 hge
 have HR0 := Aside0.mk hr0
 have HC0 := Aside0.mk hq0
 clear hr0 hq0 hB
 by_cases hc : s0_1 = true ∨ (s0_0.length : Int) < a1
 ·
  rw [if_pos hc] at h
  simp only [Option.some.injEq, Prod.mk.injEq] at h
  obtain ⟨rfl, rfl, rfl⟩ := h
  cases s0_1 with
  | true =>
    clear hc
    go_enter Try.func90, Try.ntmps90
    go_wp2_with (first | ((with_reducible refine gate_dst (N := 23) rfl ?_); refine Kd.R_make (Kd.int .u8) _ 5 rfl (N := 23) rfl 24 _ _ rfl a1 rfl rfl Try.underlying24 (.int .u8 0) 1 info5 rfl (by decide) (by omega) 0 (ok := fun _ => True) (okp := fun _ => True) rfl (fun _ hk => hk) trivial HN0.out (by have := HN0.out; have := HN1.out; omega) (Below.refl _ _) (Nat.le_refl _) ?_; intro v w1 ho hb hg_ hnew_; clear hg_ hnew_; obtain ⟨Ao, co, eo⟩ := Kd.R_slice ho; subst eo; have n0_ : Aside0 (IsS99 w0 w1 g s0_0 true) := ⟨IsS99.below (by repeat (first | exact HI.out | apply IsS99.set_1 | apply IsS99.drewN | apply IsS99.drew)) hb⟩; have n1_ : Aside0 (Below w0.heap.size w0 w1) := ⟨below_step (by repeat (first | exact HB.out | apply pw_below_drewN | apply below_drew1 | refine below_set ?_ (IsS99.ge HI.out))) hb⟩; have n2_ : Aside0 (KeepBut w w1 g none) := ⟨KeepBut.trans (by repeat (first | exact HK.out | apply KeepBut.set_ | apply keep_drewN | apply keep_drew)) (KeepBut.of_below hb g none) (.inl rfl)⟩; have n3_ := Aside0.mk (Kd.R_reads' ho).2.2; have n4_ := Aside0.mk (Kd.R_reads' ho).2.1; clear ho hb))
    go_ret
    exact ⟨_, rfl, ⟨Ao, co, by rw [List.length_replicate]; rfl, by simpa using n3_.out, by have := n4_.out; rw [List.length_replicate] at this ⊢; exact this⟩, n0_.out, n1_.out, n2_.out⟩
  | false =>
    have p0 : decide ((s0_0.length : Int) < a1) = true := decide_eq_true (hc.resolve_left (by decide))
    clear hc
    go_enter Try.func90, Try.ntmps90
    go_wp2_with (first | (go_at_call 88; (with_reducible refine (impl_length_byte.calls A0 c0 s0_0 (s0_0.length : Int) _ ?_ ?_ rfl).mono ?_); exact Kd.C_below HR0.out HB.out; exact HC0.out; rintro e w' ⟨rfl, ⟨nd, rfl⟩⟩) | ((with_reducible refine gate_dst (N := 23) rfl ?_); refine Kd.R_make (Kd.int .u8) _ 5 rfl (N := 23) rfl 24 _ _ rfl a1 rfl rfl Try.underlying24 (.int .u8 0) 1 info5 rfl (by decide) (by omega) 0 (ok := fun _ => True) (okp := fun _ => True) rfl (fun _ hk => hk) trivial HN0.out (by have := HN0.out; have := HN1.out; omega) (Below.refl _ _) (Nat.le_refl _) ?_; intro v w1 ho hb hg_ hnew_; clear hg_ hnew_; obtain ⟨Ao, co, eo⟩ := Kd.R_slice ho; subst eo; have n0_ : Aside0 (IsS99 w0 w1 g s0_0 true) := ⟨IsS99.below (by repeat (first | exact HI.out | apply IsS99.set_1 | apply IsS99.drewN | apply IsS99.drew)) hb⟩; have n1_ : Aside0 (Below w0.heap.size w0 w1) := ⟨below_step (by repeat (first | exact HB.out | apply pw_below_drewN | apply below_drew1 | refine below_set ?_ (IsS99.ge HI.out))) hb⟩; have n2_ : Aside0 (KeepBut w w1 g none) := ⟨KeepBut.trans (by repeat (first | exact HK.out | apply KeepBut.set_ | apply keep_drewN | apply keep_drew)) (KeepBut.of_below hb g none) (.inl rfl)⟩; have n3_ := Aside0.mk (Kd.R_reads' ho).2.2; have n4_ := Aside0.mk (Kd.R_reads' ho).2.1; clear ho hb))
    go_ret
    exact ⟨_, rfl, ⟨Ao, co, by rw [List.length_replicate]; rfl, by simpa using n3_.out, by have := n4_.out; rw [List.length_replicate] at this ⊢; exact this⟩, n0_.out, n1_.out, n2_.out⟩
 ·
  rw [if_neg hc] at h
  simp only [Option.some.injEq, Prod.mk.injEq] at h
  obtain ⟨rfl, rfl, rfl⟩ := h
  have hb0 : s0_1 = false := by cases s0_1 with | true => exact absurd (Or.inl rfl) hc | false => rfl
  subst hb0
  have hle : a1 ≤ (s0_0.length : Int) := Int.not_lt.1 (fun h_ => hc (.inr h_))
  have p0 : decide ((s0_0.length : Int) < a1) = false := decide_eq_false (Int.not_lt.2 hle)
  have HLE := Aside0.mk hle
  clear hc hle
  obtain ⟨i0, hi0, _, hsz, _⟩ := info_parts info5
  have hcut1 := cut_to (P := Try.prog) 24 5 .i64 Try.underlying24 hi0 A0 s0_0.length c0 a1 HN0.out HLE.out HC0.out
  have hcut2 := cut_from (P := Try.prog) 24 5 .i64 Try.underlying24 hi0 1 hsz A0 s0_0.length c0 a1 HN0.out HLE.out
  have hmn : a1.toNat ≤ s0_0.length := by have := HN0.out; have := HLE.out; omega
  have hr1 := Aside0.mk (Kd.C_take (m := a1.toNat) HR0.out hmn)
  have hr2 := Aside0.mk (Kd.C_drop (m := a1.toNat) (c := c0) HR0.out hmn HC0.out)
  have HMN := Aside0.mk hmn
  clear hi0 hsz hmn
  generalize hA1 : (if c0 = a1.toNat then A0 else A0.map (·.add (a1.toNat * 1))) = A1 at hcut2
  replace hr2 : Aside0 (Kd.C (Kd.int .u8) w0 A1 (s0_0.drop a1.toNat).length (s0_0.drop a1.toNat)) := by rw [← hA1]; exact hr2
  clear hA1
  go_enter Try.func90, Try.ntmps90
  go_wp2_with (first | (go_at_call 88; (with_reducible refine (impl_length_byte.calls A0 c0 s0_0 (s0_0.length : Int) _ ?_ ?_ rfl).mono ?_); exact Kd.C_below HR0.out HB.out; exact HC0.out; rintro e w' ⟨rfl, ⟨nd, rfl⟩⟩))
  go_ret
  have hI2 := fun (W : World) (hW : IsS99 w0 W g s0_0 false) => IsS99.sl_0 (c := c0 - a1.toNat) hW hr2.out (by rw [List.length_drop]; have := HC0.out; omega) (List.length_drop ..)
  refine ⟨_, rfl, ⟨A0, c0, by rw [List.length_take, Nat.min_eq_left HMN.out]; rfl, Kd.C_below hr1.out ?_, by rw [List.length_take]; have := HC0.out; omega⟩, hI2 _ (by repeat (first | exact HI.out | apply IsS99.drewN | apply IsS99.drew)), ?_, by repeat (first | exact HK.out | apply KeepBut.set_ | apply keep_drewN | apply keep_drew)⟩ <;> repeat (first | exact HB.out | apply pw_below_drewN | apply below_drew1 | refine below_set ?_ (IsS99.ge HI.out))

/-! ### impl_taker_two: function 87 -/
def impl_taker_two.f (s0_0 : List Int) (s0_1 : Bool) : Option (Int × List Int × Bool) := if s0_1 = true ∨ (s0_0.length : Int) < 2 then some (0, s0_0, true) else some (wrap64 ((wrap64 ((wrap64 (rd s0_0 0)) * 256)) + (wrap64 (rd s0_0 1))), s0_0.drop 2, false)
set_option maxHeartbeats 8000000 in
set_option maxRecDepth 100000 in
theorem impl_taker_two.calls (g : Nat) (s0_0 : List Int) (s0_1 : Bool) (r1 : Int) (r2 : List Int) (r3 : Bool) (w0 w : World) (hI : IsS99 w0 w g s0_0 s0_1) (hB : Below w0.heap.size w0 w) (h : impl_taker_two.f s0_0 s0_1 = some (r1, r2, r3)) :
 Calls Try.prog 87 #[.pointer (some ⟨g, 0, none⟩)] w fun e w' => e = .returned (.int .i64 r1) ∧ IsS99 w0 w' g r2 r3 ∧ Below w0.heap.size w0 w' ∧ KeepBut w w' g none := by
 have hT : ∃ l : List Int, l.length = 2 ∧ impl_taker_take.f s0_0 s0_1 2 = some (l, r2, r3) ∧ r1 = wrap64 ((wrap64 ((wrap64 (rd l 0)) * 256)) + (wrap64 (rd l 1))) := by
  unfold impl_taker_two.f at h
  unfold impl_taker_take.f
  rw [if_pos (show (0 : Int) ≤ 2 ∧ (2 : Int) ≤ 100000 by decide)]
  by_cases hc : s0_1 = true ∨ (s0_0.length : Int) < 2
  · rw [if_pos hc] at h ⊢
    simp only [Option.some.injEq, Prod.mk.injEq] at h
    obtain ⟨rfl, rfl, rfl⟩ := h
    exact ⟨_, List.length_replicate, rfl, by kernel_rfl⟩
  ·
   rw [if_neg hc] at h ⊢
   simp only [Option.some.injEq, Prod.mk.injEq] at h
   obtain ⟨rfl, rfl, rfl⟩ := h
   have hn : ¬ (s0_0.length : Int) < 2 := fun h_ => hc (.inr h_)
   refine ⟨_, ?_, rfl, ?_⟩
   · rw [List.length_take]; show min 2 _ = 2; omega
   · cases s0_0 with | nil => exact absurd (by decide) hn | cons a t => cases t with | nil => exact absurd (by simp) hn | cons b t => rfl
 clear h
 obtain ⟨l, hl, hT, rfl⟩ := hT
 have HT := Aside0.mk hT
 have HL := Aside0.mk hl
 have HI := Aside0.mk hI
 have HB := Aside0.mk hB
 clear hT hI hB hl
 go_enter Try.func87, Try.ntmps87
 go_wp2_with (first | ((with_reducible refine gate_callee (f := 90) rfl ?_); refine goesL_ (some 5) rfl rfl Try.func90 (by kernel_rfl) rfl #[.pointer (some ⟨g, 0, none⟩), .int .i64 2] rfl (by (try simp only [List.map_toArray, List.map_cons, List.map_nil]); first | done | rfl) ?_; refine (impl_taker_take.calls g s0_0 s0_1 2 l r2 r3 w0 _ HI.out HB.out HT.out).mono ?_; rintro e w1 ⟨vs, rfl, ⟨Aq, cq, es, hC, hc⟩, hi, hb, hk⟩; subst es; refine ⟨_, rfl, ?_⟩; rw [HL.out]; obtain ⟨ad0, ea0, hx0⟩ := Kd.at_int hC 0 (by omega) (by rw [HL.out]; decide); obtain ⟨ad1, ea1, hx1⟩ := Kd.at_int hC 1 (by omega) (by rw [HL.out]; decide); cases ea0; cases ea1; rw [show ((0 : Int)).toNat = 0 from rfl, Addr.add_zero'] at hx0; simp only [show (1 : Int).toNat = 1 from rfl, Nat.reduceMul, Nat.reduceEqDiff, Go.Addr.add, ↓reduceIte] at hx1; clear hC; have HI1 := Aside0.mk hi; have HB1 := Aside0.mk hb; have HK1 := Aside0.mk hk; clear hi hb hk))
 repeat (go_quiet (fail); try go_wp2)

 go_ret
 exact ⟨by first | rfl | (simp; done), by repeat (first | exact HI1.out | apply IsS99.drewN | apply IsS99.drew), by repeat (first | exact HB1.out | apply pw_below_drewN | apply below_drew1), by repeat (first | exact HK1.out | apply keep_drewN | apply keep_drew)⟩

/-! ### impl_taker_one: function 89 -/
def impl_taker_one.f (s0_0 : List Int) (s0_1 : Bool) : Option (Int × List Int × Bool) := if s0_1 = true ∨ (s0_0.length : Int) < 1 then some (0, s0_0, true) else some (wrap64 (rd s0_0 0), s0_0.drop 1, false)
set_option maxHeartbeats 8000000 in
set_option maxRecDepth 100000 in
theorem impl_taker_one.calls (g : Nat) (s0_0 : List Int) (s0_1 : Bool) (r1 : Int) (r2 : List Int) (r3 : Bool) (w0 w : World) (hI : IsS99 w0 w g s0_0 s0_1) (hB : Below w0.heap.size w0 w) (h : impl_taker_one.f s0_0 s0_1 = some (r1, r2, r3)) :
 Calls Try.prog 89 #[.pointer (some ⟨g, 0, none⟩)] w fun e w' => e = .returned (.int .i64 r1) ∧ IsS99 w0 w' g r2 r3 ∧ Below w0.heap.size w0 w' ∧ KeepBut w w' g none := by
 have hT : ∃ l : List Int, l.length = 1 ∧ impl_taker_take.f s0_0 s0_1 1 = some (l, r2, r3) ∧ r1 = wrap64 (rd l 0) := by
  unfold impl_taker_one.f at h
  unfold impl_taker_take.f
  rw [if_pos (show (0 : Int) ≤ 1 ∧ (1 : Int) ≤ 100000 by decide)]
  by_cases hc : s0_1 = true ∨ (s0_0.length : Int) < 1
  · rw [if_pos hc] at h ⊢
    simp only [Option.some.injEq, Prod.mk.injEq] at h
    obtain ⟨rfl, rfl, rfl⟩ := h
    exact ⟨_, List.length_replicate, rfl, by kernel_rfl⟩
  ·
   rw [if_neg hc] at h ⊢
   simp only [Option.some.injEq, Prod.mk.injEq] at h
   obtain ⟨rfl, rfl, rfl⟩ := h
   have hn : ¬ (s0_0.length : Int) < 1 := fun h_ => hc (.inr h_)
   refine ⟨_, ?_, rfl, ?_⟩
   · rw [List.length_take]; show min 1 _ = 1; omega
   · cases s0_0 with | nil => exact absurd (by decide) hn | cons a t => rfl
 clear h
 obtain ⟨l, hl, hT, rfl⟩ := hT
 have HT := Aside0.mk hT
 have HL := Aside0.mk hl
 have HI := Aside0.mk hI
 have HB := Aside0.mk hB
 clear hT hI hB hl
 go_enter Try.func89, Try.ntmps89
 go_wp2_with (first | ((with_reducible refine gate_callee (f := 90) rfl ?_); refine goesL_ (some 4) rfl rfl Try.func90 (by kernel_rfl) rfl #[.pointer (some ⟨g, 0, none⟩), .int .i64 1] rfl (by (try simp only [List.map_toArray, List.map_cons, List.map_nil]); first | done | rfl) ?_; refine (impl_taker_take.calls g s0_0 s0_1 1 l r2 r3 w0 _ HI.out HB.out HT.out).mono ?_; rintro e w1 ⟨vs, rfl, ⟨Aq, cq, es, hC, hc⟩, hi, hb, hk⟩; subst es; refine ⟨_, rfl, ?_⟩; rw [HL.out]; obtain ⟨ad0, ea0, hx0⟩ := Kd.at_int hC 0 (by omega) (by rw [HL.out]; decide); cases ea0; rw [show ((0 : Int)).toNat = 0 from rfl, Addr.add_zero'] at hx0; clear hC; have HI1 := Aside0.mk hi; have HB1 := Aside0.mk hb; have HK1 := Aside0.mk hk; clear hi hb hk))
 go_ret
 exact ⟨by first | rfl | (simp; done), by repeat (first | exact HI1.out | apply IsS99.drewN | apply IsS99.drew), by repeat (first | exact HB1.out | apply pw_below_drewN | apply below_drew1), by repeat (first | exact HK1.out | apply keep_drewN | apply keep_drew)⟩

/-! ### bytes_Equal: function 91 -/
def bytes_Equal.f (l0 : List Int) (l1 : List Int) : Option (Bool) := some ((strOfNums l0).toList == (strOfNums l1).toList)
set_option maxHeartbeats 8000000 in
set_option maxRecDepth 100000 in
theorem bytes_Equal.calls (A0 : Option Addr) (c0 : Nat) (l0 : List Int) (A1 : Option Addr) (c1 : Nat) (l1 : List Int) (r : Bool) (w : World) (hr0 : Kd.C (Kd.int .u8) w A0 l0.length l0) (hc0 : l0.length ≤ c0) (hr1 : Kd.C (Kd.int .u8) w A1 l1.length l1) (hc1 : l1.length ≤ c1) (h : bytes_Equal.f l0 l1 = some r) :
 Calls Try.prog 91 #[.slice A0 l0.length c0, .slice A1 l1.length c1] w fun e w' => e = .returned (.bool r) ∧ Drawn0 w w' := by
 have HR0 := Aside0.mk hr0
 have HC0 := Aside0.mk hc0
 clear hr0 hc0
 have HR1 := Aside0.mk hr1
 have HC1 := Aside0.mk hc1
 clear hr1 hc1
 have H : (some ((strOfNums l0).toList == (strOfNums l1).toList)) = some r := h
 clear h
 obtain rfl := Option.some.inj H
 have hcv3 := Kd.C_string (P := Try.prog) (A := A0) (c := c0) Try.underlying24 Try.underlying5 Try.underlying9 HR0.out
 have hcq4 := fun (nq_ : Nat) => Kd.C_string (P := Try.prog) (A := A0) (c := c0) Try.underlying24 Try.underlying5 Try.underlying9 (Kd.C_drewN HR0.out nq_)
 have hcv5 := Kd.C_string (P := Try.prog) (A := A1) (c := c1) Try.underlying24 Try.underlying5 Try.underlying9 HR1.out
 have hcq6 := fun (nq_ : Nat) => Kd.C_string (P := Try.prog) (A := A1) (c := c1) Try.underlying24 Try.underlying5 Try.underlying9 (Kd.C_drewN HR1.out nq_)
 go_enter Try.func91, Try.ntmps91
 go_wp2
 go_ret
 exact ⟨vl_, dr_⟩

end Go.Proofs.Ytehdbobpbcjmeaa.PFnExactReadOp

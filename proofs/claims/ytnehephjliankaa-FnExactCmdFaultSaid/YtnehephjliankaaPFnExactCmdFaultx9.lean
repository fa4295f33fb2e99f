/- Functions of the program as Lean functions, each with the proof that its call comes to what that function says (texts written by a program of this session). Conditions: those that stand in each theorem. -/
import Derived.Test.YtnehephjliankaaPFnExactCmdFaultx0
import Derived.Test.YtnehephjliankaaPFnExactCmdFaultx8
namespace Go.Proofs.Ytnehephjliankaa.PFnExactCmdFault
open Go.RowKit Go.Proofs.YtnehephjliankaaW.PrintWords Go.Proofs.YtnehephjliankaaW.PrintLast Go.Proofs.YtnehephjliankaaW.PrintMore
attribute [local go_sem] max2_int min2_int max_two min_two max_three min_three max_four min_four   -- for this text's walks alone
set_option linter.unusedVariables false
set_option linter.unusedSimpArgs false

/-! ### impl_Cmd_hasTerms: function 44 -/
def impl_Cmd_hasTerms.f (k : Nat) (a0_0 : ByteArray) (a0_1 : Int) (a0_2 : ByteArray) (l0_3 : List (S100)) (a0_4 : Int) (a0_5 : Int) (a0_6 : Int) (l0_7 : List Int) (a0_8 : Int) (l0_9 : List Int) (a0_10 : Int) (a0_11 : Bool) (l0_12 : List (S104)) (a0_13 : Int) : Option (Bool) := (impl_Cmd_is.f k a0_0 a0_1 a0_2 l0_3 a0_4 a0_5 a0_6 l0_7 a0_8 l0_9 a0_10 a0_11 l0_12 a0_13 (([12, 13] : List Int))).bind fun t297 => (some t297)
set_option maxHeartbeats 8000000 in
set_option maxRecDepth 100000 in
theorem impl_Cmd_hasTerms.calls (k : Nat) (a0_0 : ByteArray) (a0_1 : Int) (a0_2 : ByteArray) (A0_3 : Option Addr) (c0_3 : Nat) (l0_3 : List (S100)) (a0_4 : Int) (a0_5 : Int) (a0_6 : Int) (A0_7 : Option Addr) (c0_7 : Nat) (l0_7 : List Int) (a0_8 : Int) (A0_9 : Option Addr) (c0_9 : Nat) (l0_9 : List Int) (a0_10 : Int) (a0_11 : Bool) (A0_12 : Option Addr) (c0_12 : Nat) (l0_12 : List (S104)) (a0_13 : Int) (r : Bool) (w : World) (hr0_3 : Kd.C k100 w A0_3 l0_3.length l0_3) (hc0_3 : l0_3.length ≤ c0_3) (hr0_7 : Kd.C (Kd.int .u8) w A0_7 l0_7.length l0_7) (hc0_7 : l0_7.length ≤ c0_7) (hr0_9 : Kd.C (Kd.int .i64) w A0_9 l0_9.length l0_9) (hc0_9 : l0_9.length ≤ c0_9) (hr0_12 : Kd.C k104 w A0_12 l0_12.length l0_12) (hc0_12 : l0_12.length ≤ c0_12) (h : impl_Cmd_hasTerms.f k a0_0 a0_1 a0_2 l0_3 a0_4 a0_5 a0_6 l0_7 a0_8 l0_9 a0_10 a0_11 l0_12 a0_13 = some r) :
 Calls Try.prog 44 #[.agg #[.string a0_0, .int .i64 a0_1, .string a0_2, .slice A0_3 l0_3.length c0_3, .int .i64 a0_4, .int .i64 a0_5, .int .i64 a0_6, .slice A0_7 l0_7.length c0_7, .int .i64 a0_8, .slice A0_9 l0_9.length c0_9, .int .i64 a0_10, .bool a0_11, .slice A0_12 l0_12.length c0_12, .int .i64 a0_13]] w fun e w' => e = .returned (.bool r) ∧ Below w.heap.size w w' := by
 have hu33 := Try.underlying33
 have HR0_3 := Aside0.mk hr0_3
 have HC0_3 := Aside0.mk hc0_3
 clear hr0_3 hc0_3
 have HR0_7 := Aside0.mk hr0_7
 have HC0_7 := Aside0.mk hc0_7
 clear hr0_7 hc0_7
 have HR0_9 := Aside0.mk hr0_9
 have HC0_9 := Aside0.mk hc0_9
 clear hr0_9 hc0_9
 have HR0_12 := Aside0.mk hr0_12
 have HC0_12 := Aside0.mk hc0_12
 clear hr0_12 hc0_12
 have HB := Aside0.mk (Below.refl w.heap.size w)
 have H : ((impl_Cmd_is.f k a0_0 a0_1 a0_2 l0_3 a0_4 a0_5 a0_6 l0_7 a0_8 l0_9 a0_10 a0_11 l0_12 a0_13 (([12, 13] : List Int))).bind fun t297 => (some t297)) = some r := h
 clear h
 obtain ⟨y294, hy294⟩ : ∃ y_ : List Int, y_ = (([12, 13] : List Int)) := ⟨_, rfl⟩
 replace H : ((impl_Cmd_is.f k a0_0 a0_1 a0_2 l0_3 a0_4 a0_5 a0_6 l0_7 a0_8 l0_9 a0_10 a0_11 l0_12 a0_13 y294).bind fun t297 => (some t297)) = some r := by first | (rw [hy294]; with_reducible exact H) | (have H2_ := (Option.bind_some _ _).symm.trans H; rw [hy294]; with_reducible exact H2_) | (have H2_ := (Option.bind_some _ _).symm.trans H; with_reducible exact H2_) | with_reducible exact H | (rw [hy294]; exact H) | exact H
 have Ny294 := Aside0.mk hy294
 clear hy294
 replace H := Option.bind_eq_some_iff.mp H
 obtain ⟨t297, A20, H⟩ := H
 replace H : (some t297) = some r := H
 have A2 := Aside0.mk A20
 clear A20
 obtain rfl := Option.some.inj H
 go_enter Try.func44, Try.ntmps44
 go_wp2_with (first | ((with_reducible refine gate_dst (N := 1) rfl ?_); refine box_event ?hg (N := 1) ?hd (cs := #[.string a0_0, .int .i64 a0_1, .string a0_2, .slice A0_3 l0_3.length c0_3, .int .i64 a0_4, .int .i64 a0_5, .int .i64 a0_6, .slice A0_7 l0_7.length c0_7, .int .i64 a0_8, .slice A0_9 l0_9.length c0_9, .int .i64 a0_10, .bool a0_11, .slice A0_12 l0_12.length c0_12, .int .i64 a0_13]) (t := 33) ?hr ?_; (case hd => rfl); (case hg => rfl); (case hr => first | (go_simp; done) | (go_simp; rfl)); intro gb293 hg w3 hbox hb; have n0_ := Aside0.mk (below_step (HB_up HB.out) hb); have n1_ := Aside0.mk (hbox); have n2_ := Aside0.mk ((by rw [hg]; exact (below_size (HB_up HB.out)) : w.heap.size ≤ gb293)); have n3_ := Aside0.mk ((by rw [hg]; exact (below_size (HB_up HB.out)) : w.heap.size ≤ gb293)); clear HB; have HB := n0_; have BK293 := n1_; have GW293 := n2_; have GE293 := n3_; clear n0_ n1_ n2_ n3_; clear hb hbox hg; obtain ⟨hcz4_0, hcz4_1, hcz4_2, hcz4_3, hcz4_4, hcz4_5, hcz4_6, hcz4_7, hcz4_8, hcz4_9, hcz4_10, hcz4_11, hcz4_12, hcz4_13⟩ := blk_cells14 BK293.out; obtain ⟨hfz4_0, hfz4_1, hfz4_2, hfz4_3, hfz4_4, hfz4_5, hfz4_6, hfz4_7, hfz4_8, hfz4_9, hfz4_10, hfz4_11, hfz4_12, hfz4_13⟩ := blk_frozen14 BK293.out) | ((with_reducible refine gate_dst (N := 4) rfl ?_); refine Kd.R_lit (Kd.int .i64) _ 2 ?hg (N := 4) ?hd (xs := ([12, 13] : List Int)) (inner := [.int .i64 12, .int .i64 13]) (ok := fun _ => True) (okp := fun _ => True) ?hr ?hp (fun _ hk => hk) trivial (Below.refl _ _) (Nat.le_refl _) (by simp) ?_; (case hd => rfl); (case hg => rfl); (case hr => first | (go_simp; done) | (go_simp; rfl)); (case hp => exact (Reps.one (show Kd.M (Kd.int .i64) _ _ _ 12 [.int .i64 12] from rfl) (Reps.one (show Kd.M (Kd.int .i64) _ _ _ 13 [.int .i64 13] from rfl) (Reps.none _ _)))); intro v295 w5 ho6 hb hg_ hnew_; clear hg_ hnew_; (first | rw [← Ny294.out] at ho6 | (simp only [Int.reduceToNat] at ho6; rw [← Ny294.out] at ho6)); have HO296 := Aside0.mk (Kd.R_lower ho6 (below_size (HB_up HB.out))); replace BK293 := Aside0.mk (blk_below (g := gb293) (blk_up BK293.out) hb); replace HB := Aside0.mk (below_step (HB_up HB.out) hb); clear hb ho6; obtain ⟨Ao7, co7, eo7⟩ := Kd.R_slice HO296.out; subst eo7) | ((with_reducible refine gate_callee (f := 80) rfl ?_); refine goesY_ (some 5) Try.func80 #[.agg #[.string a0_0, .int .i64 a0_1, .string a0_2, .slice A0_3 l0_3.length c0_3, .int .i64 a0_4, .int .i64 a0_5, .int .i64 a0_6, .slice A0_7 l0_7.length c0_7, .int .i64 a0_8, .slice A0_9 l0_9.length c0_9, .int .i64 a0_10, .bool a0_11, .slice A0_12 l0_12.length c0_12, .int .i64 a0_13], .slice Ao7 y294.length co7] rfl ?_; (with_reducible refine (impl_Cmd_is.calls k a0_0 a0_1 a0_2 _ _ l0_3 a0_4 a0_5 a0_6 _ _ l0_7 a0_8 _ _ l0_9 a0_10 a0_11 _ _ l0_12 a0_13 _ _ y294 t297 _ ?_ ?_ ?_ ?_ ?_ ?_ ?_ ?_ ?_ ?_ A2.out).mono ?_); exact C_up (Kd.C_below HR0_3.out HB.out); exact HC0_3.out; exact C_up (Kd.C_below HR0_7.out HB.out); exact HC0_7.out; exact C_up (Kd.C_below HR0_9.out HB.out); exact HC0_9.out; exact C_up (Kd.C_below HR0_12.out HB.out); exact HC0_12.out; exact C_up (Kd.R_reads' HO296.out).2.2; exact (Kd.R_reads' HO296.out).2.1; rintro e w8 ⟨rfl, hb⟩; refine ⟨_, rfl, ?_⟩; replace HO296 := Aside0.mk (Kd.R_below (R_up HO296.out) hb); replace BK293 := Aside0.mk (blk_below (g := gb293) (blk_up BK293.out) hb); replace HB := Aside0.mk (below_step (HB_up HB.out) hb); (try clear hb)))
 go_ret
 exact ⟨ve_, hs_⟩

/-! ### impl_Cmd_hasFlags: function 81 -/
def impl_Cmd_hasFlags.f (k : Nat) (a0_0 : ByteArray) (a0_1 : Int) (a0_2 : ByteArray) (l0_3 : List (S100)) (a0_4 : Int) (a0_5 : Int) (a0_6 : Int) (l0_7 : List Int) (a0_8 : Int) (l0_9 : List Int) (a0_10 : Int) (a0_11 : Bool) (l0_12 : List (S104)) (a0_13 : Int) : Option (Bool) := (impl_Cmd_is.f k a0_0 a0_1 a0_2 l0_3 a0_4 a0_5 a0_6 l0_7 a0_8 l0_9 a0_10 a0_11 l0_12 a0_13 (([7, 6] : List Int))).bind fun t302 => (some t302)
set_option maxHeartbeats 8000000 in
set_option maxRecDepth 100000 in
theorem impl_Cmd_hasFlags.calls (k : Nat) (a0_0 : ByteArray) (a0_1 : Int) (a0_2 : ByteArray) (A0_3 : Option Addr) (c0_3 : Nat) (l0_3 : List (S100)) (a0_4 : Int) (a0_5 : Int) (a0_6 : Int) (A0_7 : Option Addr) (c0_7 : Nat) (l0_7 : List Int) (a0_8 : Int) (A0_9 : Option Addr) (c0_9 : Nat) (l0_9 : List Int) (a0_10 : Int) (a0_11 : Bool) (A0_12 : Option Addr) (c0_12 : Nat) (l0_12 : List (S104)) (a0_13 : Int) (r : Bool) (w : World) (hr0_3 : Kd.C k100 w A0_3 l0_3.length l0_3) (hc0_3 : l0_3.length ≤ c0_3) (hr0_7 : Kd.C (Kd.int .u8) w A0_7 l0_7.length l0_7) (hc0_7 : l0_7.length ≤ c0_7) (hr0_9 : Kd.C (Kd.int .i64) w A0_9 l0_9.length l0_9) (hc0_9 : l0_9.length ≤ c0_9) (hr0_12 : Kd.C k104 w A0_12 l0_12.length l0_12) (hc0_12 : l0_12.length ≤ c0_12) (h : impl_Cmd_hasFlags.f k a0_0 a0_1 a0_2 l0_3 a0_4 a0_5 a0_6 l0_7 a0_8 l0_9 a0_10 a0_11 l0_12 a0_13 = some r) :
 Calls Try.prog 81 #[.agg #[.string a0_0, .int .i64 a0_1, .string a0_2, .slice A0_3 l0_3.length c0_3, .int .i64 a0_4, .int .i64 a0_5, .int .i64 a0_6, .slice A0_7 l0_7.length c0_7, .int .i64 a0_8, .slice A0_9 l0_9.length c0_9, .int .i64 a0_10, .bool a0_11, .slice A0_12 l0_12.length c0_12, .int .i64 a0_13]] w fun e w' => e = .returned (.bool r) ∧ Below w.heap.size w w' := by
 have hu33 := Try.underlying33
 have HR0_3 := Aside0.mk hr0_3
 have HC0_3 := Aside0.mk hc0_3
 clear hr0_3 hc0_3
 have HR0_7 := Aside0.mk hr0_7
 have HC0_7 := Aside0.mk hc0_7
 clear hr0_7 hc0_7
 have HR0_9 := Aside0.mk hr0_9
 have HC0_9 := Aside0.mk hc0_9
 clear hr0_9 hc0_9
 have HR0_12 := Aside0.mk hr0_12
 have HC0_12 := Aside0.mk hc0_12
 clear hr0_12 hc0_12
 have HB := Aside0.mk (Below.refl w.heap.size w)
 have H : ((impl_Cmd_is.f k a0_0 a0_1 a0_2 l0_3 a0_4 a0_5 a0_6 l0_7 a0_8 l0_9 a0_10 a0_11 l0_12 a0_13 (([7, 6] : List Int))).bind fun t302 => (some t302)) = some r := h
 clear h
 obtain ⟨y299, hy299⟩ : ∃ y_ : List Int, y_ = (([7, 6] : List Int)) := ⟨_, rfl⟩
 replace H : ((impl_Cmd_is.f k a0_0 a0_1 a0_2 l0_3 a0_4 a0_5 a0_6 l0_7 a0_8 l0_9 a0_10 a0_11 l0_12 a0_13 y299).bind fun t302 => (some t302)) = some r := by first | (rw [hy299]; with_reducible exact H) | (have H2_ := (Option.bind_some _ _).symm.trans H; rw [hy299]; with_reducible exact H2_) | (have H2_ := (Option.bind_some _ _).symm.trans H; with_reducible exact H2_) | with_reducible exact H | (rw [hy299]; exact H) | exact H
 have Ny299 := Aside0.mk hy299
 clear hy299
 replace H := Option.bind_eq_some_iff.mp H
 obtain ⟨t302, A20, H⟩ := H
 replace H : (some t302) = some r := H
 have A2 := Aside0.mk A20
 clear A20
 obtain rfl := Option.some.inj H
 go_enter Try.func81, Try.ntmps81
 go_wp2_with (first | ((with_reducible refine gate_dst (N := 1) rfl ?_); refine box_event ?hg (N := 1) ?hd (cs := #[.string a0_0, .int .i64 a0_1, .string a0_2, .slice A0_3 l0_3.length c0_3, .int .i64 a0_4, .int .i64 a0_5, .int .i64 a0_6, .slice A0_7 l0_7.length c0_7, .int .i64 a0_8, .slice A0_9 l0_9.length c0_9, .int .i64 a0_10, .bool a0_11, .slice A0_12 l0_12.length c0_12, .int .i64 a0_13]) (t := 33) ?hr ?_; (case hd => rfl); (case hg => rfl); (case hr => first | (go_simp; done) | (go_simp; rfl)); intro gb298 hg w3 hbox hb; have n0_ := Aside0.mk (below_step (HB_up HB.out) hb); have n1_ := Aside0.mk (hbox); have n2_ := Aside0.mk ((by rw [hg]; exact (below_size (HB_up HB.out)) : w.heap.size ≤ gb298)); have n3_ := Aside0.mk ((by rw [hg]; exact (below_size (HB_up HB.out)) : w.heap.size ≤ gb298)); clear HB; have HB := n0_; have BK298 := n1_; have GW298 := n2_; have GE298 := n3_; clear n0_ n1_ n2_ n3_; clear hb hbox hg; obtain ⟨hcz4_0, hcz4_1, hcz4_2, hcz4_3, hcz4_4, hcz4_5, hcz4_6, hcz4_7, hcz4_8, hcz4_9, hcz4_10, hcz4_11, hcz4_12, hcz4_13⟩ := blk_cells14 BK298.out; obtain ⟨hfz4_0, hfz4_1, hfz4_2, hfz4_3, hfz4_4, hfz4_5, hfz4_6, hfz4_7, hfz4_8, hfz4_9, hfz4_10, hfz4_11, hfz4_12, hfz4_13⟩ := blk_frozen14 BK298.out) | ((with_reducible refine gate_dst (N := 4) rfl ?_); refine Kd.R_lit (Kd.int .i64) _ 2 ?hg (N := 4) ?hd (xs := ([7, 6] : List Int)) (inner := [.int .i64 7, .int .i64 6]) (ok := fun _ => True) (okp := fun _ => True) ?hr ?hp (fun _ hk => hk) trivial (Below.refl _ _) (Nat.le_refl _) (by simp) ?_; (case hd => rfl); (case hg => rfl); (case hr => first | (go_simp; done) | (go_simp; rfl)); (case hp => exact (Reps.one (show Kd.M (Kd.int .i64) _ _ _ 7 [.int .i64 7] from rfl) (Reps.one (show Kd.M (Kd.int .i64) _ _ _ 6 [.int .i64 6] from rfl) (Reps.none _ _)))); intro v300 w5 ho6 hb hg_ hnew_; clear hg_ hnew_; (first | rw [← Ny299.out] at ho6 | (simp only [Int.reduceToNat] at ho6; rw [← Ny299.out] at ho6)); have HO301 := Aside0.mk (Kd.R_lower ho6 (below_size (HB_up HB.out))); replace BK298 := Aside0.mk (blk_below (g := gb298) (blk_up BK298.out) hb); replace HB := Aside0.mk (below_step (HB_up HB.out) hb); clear hb ho6; obtain ⟨Ao7, co7, eo7⟩ := Kd.R_slice HO301.out; subst eo7) | ((with_reducible refine gate_callee (f := 80) rfl ?_); refine goesY_ (some 5) Try.func80 #[.agg #[.string a0_0, .int .i64 a0_1, .string a0_2, .slice A0_3 l0_3.length c0_3, .int .i64 a0_4, .int .i64 a0_5, .int .i64 a0_6, .slice A0_7 l0_7.length c0_7, .int .i64 a0_8, .slice A0_9 l0_9.length c0_9, .int .i64 a0_10, .bool a0_11, .slice A0_12 l0_12.length c0_12, .int .i64 a0_13], .slice Ao7 y299.length co7] rfl ?_; (with_reducible refine (impl_Cmd_is.calls k a0_0 a0_1 a0_2 _ _ l0_3 a0_4 a0_5 a0_6 _ _ l0_7 a0_8 _ _ l0_9 a0_10 a0_11 _ _ l0_12 a0_13 _ _ y299 t302 _ ?_ ?_ ?_ ?_ ?_ ?_ ?_ ?_ ?_ ?_ A2.out).mono ?_); exact C_up (Kd.C_below HR0_3.out HB.out); exact HC0_3.out; exact C_up (Kd.C_below HR0_7.out HB.out); exact HC0_7.out; exact C_up (Kd.C_below HR0_9.out HB.out); exact HC0_9.out; exact C_up (Kd.C_below HR0_12.out HB.out); exact HC0_12.out; exact C_up (Kd.R_reads' HO301.out).2.2; exact (Kd.R_reads' HO301.out).2.1; rintro e w8 ⟨rfl, hb⟩; refine ⟨_, rfl, ?_⟩; replace HO301 := Aside0.mk (Kd.R_below (R_up HO301.out) hb); replace BK298 := Aside0.mk (blk_below (g := gb298) (blk_up BK298.out) hb); replace HB := Aside0.mk (below_step (HB_up HB.out) hb); (try clear hb)))
 go_ret
 exact ⟨ve_, hs_⟩

/-! ### impl_Cmd_hasPath: function 82 -/
def impl_Cmd_hasPath.f (k : Nat) (a0_0 : ByteArray) (a0_1 : Int) (a0_2 : ByteArray) (l0_3 : List (S100)) (a0_4 : Int) (a0_5 : Int) (a0_6 : Int) (l0_7 : List Int) (a0_8 : Int) (l0_9 : List Int) (a0_10 : Int) (a0_11 : Bool) (l0_12 : List (S104)) (a0_13 : Int) : Option (Bool) := (impl_Cmd_is.f k a0_0 a0_1 a0_2 l0_3 a0_4 a0_5 a0_6 l0_7 a0_8 l0_9 a0_10 a0_11 l0_12 a0_13 (([11] : List Int))).bind fun t307 => (if t307 = true then ((impl_within.f a0_8 3 5).bind fun t308 => (some t308)) else (some false))
set_option maxHeartbeats 8000000 in
set_option maxRecDepth 100000 in
theorem impl_Cmd_hasPath.calls (k : Nat) (a0_0 : ByteArray) (a0_1 : Int) (a0_2 : ByteArray) (A0_3 : Option Addr) (c0_3 : Nat) (l0_3 : List (S100)) (a0_4 : Int) (a0_5 : Int) (a0_6 : Int) (A0_7 : Option Addr) (c0_7 : Nat) (l0_7 : List Int) (a0_8 : Int) (A0_9 : Option Addr) (c0_9 : Nat) (l0_9 : List Int) (a0_10 : Int) (a0_11 : Bool) (A0_12 : Option Addr) (c0_12 : Nat) (l0_12 : List (S104)) (a0_13 : Int) (r : Bool) (w : World) (hr0_3 : Kd.C k100 w A0_3 l0_3.length l0_3) (hc0_3 : l0_3.length ≤ c0_3) (hr0_7 : Kd.C (Kd.int .u8) w A0_7 l0_7.length l0_7) (hc0_7 : l0_7.length ≤ c0_7) (hr0_9 : Kd.C (Kd.int .i64) w A0_9 l0_9.length l0_9) (hc0_9 : l0_9.length ≤ c0_9) (hr0_12 : Kd.C k104 w A0_12 l0_12.length l0_12) (hc0_12 : l0_12.length ≤ c0_12) (h : impl_Cmd_hasPath.f k a0_0 a0_1 a0_2 l0_3 a0_4 a0_5 a0_6 l0_7 a0_8 l0_9 a0_10 a0_11 l0_12 a0_13 = some r) :
 Calls Try.prog 82 #[.agg #[.string a0_0, .int .i64 a0_1, .string a0_2, .slice A0_3 l0_3.length c0_3, .int .i64 a0_4, .int .i64 a0_5, .int .i64 a0_6, .slice A0_7 l0_7.length c0_7, .int .i64 a0_8, .slice A0_9 l0_9.length c0_9, .int .i64 a0_10, .bool a0_11, .slice A0_12 l0_12.length c0_12, .int .i64 a0_13]] w fun e w' => e = .returned (.bool r) ∧ Below w.heap.size w w' := by
 have hu33 := Try.underlying33
 have HR0_3 := Aside0.mk hr0_3
 have HC0_3 := Aside0.mk hc0_3
 clear hr0_3 hc0_3
 have HR0_7 := Aside0.mk hr0_7
 have HC0_7 := Aside0.mk hc0_7
 clear hr0_7 hc0_7
 have HR0_9 := Aside0.mk hr0_9
 have HC0_9 := Aside0.mk hc0_9
 clear hr0_9 hc0_9
 have HR0_12 := Aside0.mk hr0_12
 have HC0_12 := Aside0.mk hc0_12
 clear hr0_12 hc0_12
 have HB := Aside0.mk (Below.refl w.heap.size w)
 have H : ((impl_Cmd_is.f k a0_0 a0_1 a0_2 l0_3 a0_4 a0_5 a0_6 l0_7 a0_8 l0_9 a0_10 a0_11 l0_12 a0_13 (([11] : List Int))).bind fun t307 => (if t307 = true then ((impl_within.f a0_8 3 5).bind fun t308 => (some t308)) else (some false))) = some r := h
 clear h
 obtain ⟨y304, hy304⟩ : ∃ y_ : List Int, y_ = (([11] : List Int)) := ⟨_, rfl⟩
 replace H : ((impl_Cmd_is.f k a0_0 a0_1 a0_2 l0_3 a0_4 a0_5 a0_6 l0_7 a0_8 l0_9 a0_10 a0_11 l0_12 a0_13 y304).bind fun t307 => (if t307 = true then ((impl_within.f a0_8 3 5).bind fun t308 => (some t308)) else (some false))) = some r := by first | (rw [hy304]; with_reducible exact H) | (have H2_ := (Option.bind_some _ _).symm.trans H; rw [hy304]; with_reducible exact H2_) | (have H2_ := (Option.bind_some _ _).symm.trans H; with_reducible exact H2_) | with_reducible exact H | (rw [hy304]; exact H) | exact H
 have Ny304 := Aside0.mk hy304
 clear hy304
 replace H := Option.bind_eq_some_iff.mp H
 obtain ⟨t307, A20, H⟩ := H
 (try dsimp only at H)
 have A2 := Aside0.mk A20
 clear A20
 by_cases c3 : t307 = true
 ·
  subst c3
  (try rw [if_pos rfl] at H)
  replace H := Option.bind_eq_some_iff.mp H
  obtain ⟨t308, A40, H⟩ := H
  replace H : (some t308) = some r := H
  have A4 := Aside0.mk A40
  clear A40
  obtain rfl := Option.some.inj H
  go_enter Try.func82, Try.ntmps82
  go_wp2_with (first | ((with_reducible refine gate_dst (N := 1) rfl ?_); refine box_event ?hg (N := 1) ?hd (cs := #[.string a0_0, .int .i64 a0_1, .string a0_2, .slice A0_3 l0_3.length c0_3, .int .i64 a0_4, .int .i64 a0_5, .int .i64 a0_6, .slice A0_7 l0_7.length c0_7, .int .i64 a0_8, .slice A0_9 l0_9.length c0_9, .int .i64 a0_10, .bool a0_11, .slice A0_12 l0_12.length c0_12, .int .i64 a0_13]) (t := 33) ?hr ?_; (case hd => rfl); (case hg => rfl); (case hr => first | (go_simp; done) | (go_simp; rfl)); intro gb303 hg w5 hbox hb; have n0_ := Aside0.mk (below_step (HB_up HB.out) hb); have n1_ := Aside0.mk (hbox); have n2_ := Aside0.mk ((by rw [hg]; exact (below_size (HB_up HB.out)) : w.heap.size ≤ gb303)); have n3_ := Aside0.mk ((by rw [hg]; exact (below_size (HB_up HB.out)) : w.heap.size ≤ gb303)); clear HB; have HB := n0_; have BK303 := n1_; have GW303 := n2_; have GE303 := n3_; clear n0_ n1_ n2_ n3_; clear hb hbox hg; obtain ⟨hcz6_0, hcz6_1, hcz6_2, hcz6_3, hcz6_4, hcz6_5, hcz6_6, hcz6_7, hcz6_8, hcz6_9, hcz6_10, hcz6_11, hcz6_12, hcz6_13⟩ := blk_cells14 BK303.out; obtain ⟨hfz6_0, hfz6_1, hfz6_2, hfz6_3, hfz6_4, hfz6_5, hfz6_6, hfz6_7, hfz6_8, hfz6_9, hfz6_10, hfz6_11, hfz6_12, hfz6_13⟩ := blk_frozen14 BK303.out) | ((with_reducible refine gate_dst (N := 4) rfl ?_); refine Kd.R_lit (Kd.int .i64) _ 2 ?hg (N := 4) ?hd (xs := ([11] : List Int)) (inner := [.int .i64 11]) (ok := fun _ => True) (okp := fun _ => True) ?hr ?hp (fun _ hk => hk) trivial (Below.refl _ _) (Nat.le_refl _) (by simp) ?_; (case hd => rfl); (case hg => rfl); (case hr => first | (go_simp; done) | (go_simp; rfl)); (case hp => exact (Reps.one (show Kd.M (Kd.int .i64) _ _ _ 11 [.int .i64 11] from rfl) (Reps.none _ _))); intro v305 w7 ho8 hb hg_ hnew_; clear hg_ hnew_; (first | rw [← Ny304.out] at ho8 | (simp only [Int.reduceToNat] at ho8; rw [← Ny304.out] at ho8)); have HO306 := Aside0.mk (Kd.R_lower ho8 (below_size (HB_up HB.out))); replace BK303 := Aside0.mk (blk_below (g := gb303) (blk_up BK303.out) hb); replace HB := Aside0.mk (below_step (HB_up HB.out) hb); clear hb ho8; obtain ⟨Ao9, co9, eo9⟩ := Kd.R_slice HO306.out; subst eo9) | ((with_reducible refine gate_callee (f := 80) rfl ?_); refine goesY_ (some 5) Try.func80 #[.agg #[.string a0_0, .int .i64 a0_1, .string a0_2, .slice A0_3 l0_3.length c0_3, .int .i64 a0_4, .int .i64 a0_5, .int .i64 a0_6, .slice A0_7 l0_7.length c0_7, .int .i64 a0_8, .slice A0_9 l0_9.length c0_9, .int .i64 a0_10, .bool a0_11, .slice A0_12 l0_12.length c0_12, .int .i64 a0_13], .slice Ao9 y304.length co9] rfl ?_; (with_reducible refine (impl_Cmd_is.calls k a0_0 a0_1 a0_2 _ _ l0_3 a0_4 a0_5 a0_6 _ _ l0_7 a0_8 _ _ l0_9 a0_10 a0_11 _ _ l0_12 a0_13 _ _ y304 true _ ?_ ?_ ?_ ?_ ?_ ?_ ?_ ?_ ?_ ?_ A2.out).mono ?_); exact C_up (Kd.C_below HR0_3.out HB.out); exact HC0_3.out; exact C_up (Kd.C_below HR0_7.out HB.out); exact HC0_7.out; exact C_up (Kd.C_below HR0_9.out HB.out); exact HC0_9.out; exact C_up (Kd.C_below HR0_12.out HB.out); exact HC0_12.out; exact C_up (Kd.R_reads' HO306.out).2.2; exact (Kd.R_reads' HO306.out).2.1; rintro e w10 ⟨rfl, hb⟩; refine ⟨_, rfl, ?_⟩; replace HO306 := Aside0.mk (Kd.R_below (R_up HO306.out) hb); replace BK303 := Aside0.mk (blk_below (g := gb303) (blk_up BK303.out) hb); replace HB := Aside0.mk (below_step (HB_up HB.out) hb); (try clear hb); obtain ⟨_, _, _, _, _, _, _, _, _, _, _, _, _, _⟩ := blk_cells14 BK303.out; obtain ⟨_, _, _, _, _, _, _, _, _, _, _, _, _, _⟩ := blk_frozen14 BK303.out) | (go_at_call 37; (with_reducible refine (impl_within.calls a0_8 3 5 t308 _ A4.out).mono ?_); rintro e w' ⟨rfl, ⟨nd, rfl⟩⟩))
  go_ret
  exact ⟨ve_, hs_⟩
 ·
  replace c3 := Bool.eq_false_iff.mpr c3
  subst c3
  (try rw [if_neg (show ¬ (false = true) by decide)] at H)
  obtain rfl := Option.some.inj H
  go_enter Try.func82, Try.ntmps82
  go_wp2_with (first | ((with_reducible refine gate_dst (N := 1) rfl ?_); refine box_event ?hg (N := 1) ?hd (cs := #[.string a0_0, .int .i64 a0_1, .string a0_2, .slice A0_3 l0_3.length c0_3, .int .i64 a0_4, .int .i64 a0_5, .int .i64 a0_6, .slice A0_7 l0_7.length c0_7, .int .i64 a0_8, .slice A0_9 l0_9.length c0_9, .int .i64 a0_10, .bool a0_11, .slice A0_12 l0_12.length c0_12, .int .i64 a0_13]) (t := 33) ?hr ?_; (case hd => rfl); (case hg => rfl); (case hr => first | (go_simp; done) | (go_simp; rfl)); intro gb303 hg w12 hbox hb; have n0_ := Aside0.mk (below_step (HB_up HB.out) hb); have n1_ := Aside0.mk (hbox); have n2_ := Aside0.mk ((by rw [hg]; exact (below_size (HB_up HB.out)) : w.heap.size ≤ gb303)); have n3_ := Aside0.mk ((by rw [hg]; exact (below_size (HB_up HB.out)) : w.heap.size ≤ gb303)); clear HB; have HB := n0_; have BK303 := n1_; have GW303 := n2_; have GE303 := n3_; clear n0_ n1_ n2_ n3_; clear hb hbox hg; obtain ⟨_, _, _, _, _, _, _, _, _, _, _, _, _, _⟩ := blk_cells14 BK303.out; obtain ⟨_, _, _, _, _, _, _, _, _, _, _, _, _, _⟩ := blk_frozen14 BK303.out) | ((with_reducible refine gate_dst (N := 4) rfl ?_); refine Kd.R_lit (Kd.int .i64) _ 2 ?hg (N := 4) ?hd (xs := ([11] : List Int)) (inner := [.int .i64 11]) (ok := fun _ => True) (okp := fun _ => True) ?hr ?hp (fun _ hk => hk) trivial (Below.refl _ _) (Nat.le_refl _) (by simp) ?_; (case hd => rfl); (case hg => rfl); (case hr => first | (go_simp; done) | (go_simp; rfl)); (case hp => exact (Reps.one (show Kd.M (Kd.int .i64) _ _ _ 11 [.int .i64 11] from rfl) (Reps.none _ _))); intro v305 w14 ho15 hb hg_ hnew_; clear hg_ hnew_; (first | rw [← Ny304.out] at ho15 | (simp only [Int.reduceToNat] at ho15; rw [← Ny304.out] at ho15)); have HO306 := Aside0.mk (Kd.R_lower ho15 (below_size (HB_up HB.out))); replace BK303 := Aside0.mk (blk_below (g := gb303) (blk_up BK303.out) hb); replace HB := Aside0.mk (below_step (HB_up HB.out) hb); clear hb ho15; obtain ⟨Ao16, co16, eo16⟩ := Kd.R_slice HO306.out; subst eo16) | ((with_reducible refine gate_callee (f := 80) rfl ?_); refine goesY_ (some 5) Try.func80 #[.agg #[.string a0_0, .int .i64 a0_1, .string a0_2, .slice A0_3 l0_3.length c0_3, .int .i64 a0_4, .int .i64 a0_5, .int .i64 a0_6, .slice A0_7 l0_7.length c0_7, .int .i64 a0_8, .slice A0_9 l0_9.length c0_9, .int .i64 a0_10, .bool a0_11, .slice A0_12 l0_12.length c0_12, .int .i64 a0_13], .slice Ao16 y304.length co16] rfl ?_; (with_reducible refine (impl_Cmd_is.calls k a0_0 a0_1 a0_2 _ _ l0_3 a0_4 a0_5 a0_6 _ _ l0_7 a0_8 _ _ l0_9 a0_10 a0_11 _ _ l0_12 a0_13 _ _ y304 false _ ?_ ?_ ?_ ?_ ?_ ?_ ?_ ?_ ?_ ?_ A2.out).mono ?_); exact C_up (Kd.C_below HR0_3.out HB.out); exact HC0_3.out; exact C_up (Kd.C_below HR0_7.out HB.out); exact HC0_7.out; exact C_up (Kd.C_below HR0_9.out HB.out); exact HC0_9.out; exact C_up (Kd.C_below HR0_12.out HB.out); exact HC0_12.out; exact C_up (Kd.R_reads' HO306.out).2.2; exact (Kd.R_reads' HO306.out).2.1; rintro e w17 ⟨rfl, hb⟩; refine ⟨_, rfl, ?_⟩; replace HO306 := Aside0.mk (Kd.R_below (R_up HO306.out) hb); replace BK303 := Aside0.mk (blk_below (g := gb303) (blk_up BK303.out) hb); replace HB := Aside0.mk (below_step (HB_up HB.out) hb); (try clear hb)))
  go_ret
  exact ⟨ve_, hs_⟩

/-! ### impl_Cmd_isOnly: function 38 -/
mutual
def impl_Cmd_isOnly.j0 : Nat → Bool → ByteArray → Int → ByteArray → List (S100) → Int → Int → Int → List Int → Int → List Int → Int → Bool → List (S104) → Int → Option (Bool)
 | 0, _, _, _, _, _, _, _, _, _, _, _, _, _, _, _ => none
 | k + 1, x3, x310000, x310001, x310002, x310003, x310004, x310005, x310006, x310007, x310008, x310009, x310010, x310011, x310012, x310013 => if x3 = true then (impl_Cmd_isOnly.j2 k x3 x310000 x310001 x310002 x310003 x310004 x310005 x310006 x310007 x310008 x310009 x310010 x310011 x310012 x310013) else ((impl_Cmd_hasRanges.f k x310000 x310001 x310002 x310003 x310004 x310005 x310006 x310007 x310008 x310009 x310010 x310011 x310012 x310013).bind fun t311 => (if t311 = true then (impl_Cmd_isOnly.j1 k false x310000 x310001 x310002 x310003 x310004 x310005 x310006 x310007 x310008 x310009 x310010 x310011 x310012 x310013) else (impl_Cmd_isOnly.j1 k (decide ((x310003.length : Int) > 0)) x310000 x310001 x310002 x310003 x310004 x310005 x310006 x310007 x310008 x310009 x310010 x310011 x310012 x310013)))
def impl_Cmd_isOnly.j2 : Nat → Bool → ByteArray → Int → ByteArray → List (S100) → Int → Int → Int → List Int → Int → List Int → Int → Bool → List (S104) → Int → Option (Bool)
 | 0, _, _, _, _, _, _, _, _, _, _, _, _, _, _, _ => none
 | k + 1, x3, x310000, x310001, x310002, x310003, x310004, x310005, x310006, x310007, x310008, x310009, x310010, x310011, x310012, x310013 => if x3 = true then (some false) else ((impl_Cmd_is.f k x310000 x310001 x310002 x310003 x310004 x310005 x310006 x310007 x310008 x310009 x310010 x310011 x310012 x310013 (([6] : List Int))).bind fun t321 => (if t321 = true then (impl_Cmd_isOnly.j3 k false x310000 x310001 x310002 x310003 x310004 x310005 x310006 x310007 x310008 x310009 x310010 x310011 x310012 x310013) else (if x310006 = 0 then (impl_Cmd_isOnly.j3 k (decide ((x310007.length : Int) > 0)) x310000 x310001 x310002 x310003 x310004 x310005 x310006 x310007 x310008 x310009 x310010 x310011 x310012 x310013) else (impl_Cmd_isOnly.j3 k true x310000 x310001 x310002 x310003 x310004 x310005 x310006 x310007 x310008 x310009 x310010 x310011 x310012 x310013))))
def impl_Cmd_isOnly.j3 : Nat → Bool → ByteArray → Int → ByteArray → List (S100) → Int → Int → Int → List Int → Int → List Int → Int → Bool → List (S104) → Int → Option (Bool)
 | 0, _, _, _, _, _, _, _, _, _, _, _, _, _, _, _ => none
 | k + 1, x38, x310000, x310001, x310002, x310003, x310004, x310005, x310006, x310007, x310008, x310009, x310010, x310011, x310012, x310013 => if x38 = true then (impl_Cmd_isOnly.j4 k x38 x310000 x310001 x310002 x310003 x310004 x310005 x310006 x310007 x310008 x310009 x310010 x310011 x310012 x310013) else ((impl_Cmd_is.f k x310000 x310001 x310002 x310003 x310004 x310005 x310006 x310007 x310008 x310009 x310010 x310011 x310012 x310013 (([11] : List Int))).bind fun t325 => (if t325 = true then ((impl_Cmd_hasPath.f k x310000 x310001 x310002 x310003 x310004 x310005 x310006 x310007 x310008 x310009 x310010 x310011 x310012 x310013).bind fun t326 => (if t326 = true then (impl_Cmd_isOnly.j4 k false x310000 x310001 x310002 x310003 x310004 x310005 x310006 x310007 x310008 x310009 x310010 x310011 x310012 x310013) else (impl_Cmd_isOnly.j4 k (decide ((x310009.length : Int) > 0)) x310000 x310001 x310002 x310003 x310004 x310005 x310006 x310007 x310008 x310009 x310010 x310011 x310012 x310013))) else (if x310008 = 0 then ((impl_Cmd_hasPath.f k x310000 x310001 x310002 x310003 x310004 x310005 x310006 x310007 x310008 x310009 x310010 x310011 x310012 x310013).bind fun t327 => (if t327 = true then (impl_Cmd_isOnly.j4 k false x310000 x310001 x310002 x310003 x310004 x310005 x310006 x310007 x310008 x310009 x310010 x310011 x310012 x310013) else (impl_Cmd_isOnly.j4 k (decide ((x310009.length : Int) > 0)) x310000 x310001 x310002 x310003 x310004 x310005 x310006 x310007 x310008 x310009 x310010 x310011 x310012 x310013))) else (impl_Cmd_isOnly.j4 k (x310008 != 0) x310000 x310001 x310002 x310003 x310004 x310005 x310006 x310007 x310008 x310009 x310010 x310011 x310012 x310013))))
def impl_Cmd_isOnly.j4 : Nat → Bool → ByteArray → Int → ByteArray → List (S100) → Int → Int → Int → List Int → Int → List Int → Int → Bool → List (S104) → Int → Option (Bool)
 | 0, _, _, _, _, _, _, _, _, _, _, _, _, _, _, _ => none
 | k + 1, x38, x310000, x310001, x310002, x310003, x310004, x310005, x310006, x310007, x310008, x310009, x310010, x310011, x310012, x310013 => if x38 = true then (some false) else ((impl_Cmd_is.f k x310000 x310001 x310002 x310003 x310004 x310005 x310006 x310007 x310008 x310009 x310010 x310011 x310012 x310013 (([13] : List Int))).bind fun t331 => (if t331 = true then (impl_Cmd_isOnly.j5 k false x310000 x310001 x310002 x310003 x310004 x310005 x310006 x310007 x310008 x310009 x310010 x310011 x310012 x310013) else (if x310010 = 0 then (impl_Cmd_isOnly.j5 k x310011 x310000 x310001 x310002 x310003 x310004 x310005 x310006 x310007 x310008 x310009 x310010 x310011 x310012 x310013) else (impl_Cmd_isOnly.j5 k true x310000 x310001 x310002 x310003 x310004 x310005 x310006 x310007 x310008 x310009 x310010 x310011 x310012 x310013))))
def impl_Cmd_isOnly.j5 : Nat → Bool → ByteArray → Int → ByteArray → List (S100) → Int → Int → Int → List Int → Int → List Int → Int → Bool → List (S104) → Int → Option (Bool)
 | 0, _, _, _, _, _, _, _, _, _, _, _, _, _, _, _ => none
 | k + 1, x72, x310000, x310001, x310002, x310003, x310004, x310005, x310006, x310007, x310008, x310009, x310010, x310011, x310012, x310013 => if x72 = true then (some false) else ((impl_Cmd_hasTerms.f k x310000 x310001 x310002 x310003 x310004 x310005 x310006 x310007 x310008 x310009 x310010 x310011 x310012 x310013).bind fun t332 => (if t332 = true then (impl_Cmd_isOnly.j6 k false x310000 x310001 x310002 x310003 x310004 x310005 x310006 x310007 x310008 x310009 x310010 x310011 x310012 x310013) else (impl_Cmd_isOnly.j6 k (decide ((x310012.length : Int) > 0)) x310000 x310001 x310002 x310003 x310004 x310005 x310006 x310007 x310008 x310009 x310010 x310011 x310012 x310013)))
def impl_Cmd_isOnly.j6 : Nat → Bool → ByteArray → Int → ByteArray → List (S100) → Int → Int → Int → List Int → Int → List Int → Int → Bool → List (S104) → Int → Option (Bool)
 | 0, _, _, _, _, _, _, _, _, _, _, _, _, _, _, _ => none
 | k + 1, x72, x310000, x310001, x310002, x310003, x310004, x310005, x310006, x310007, x310008, x310009, x310010, x310011, x310012, x310013 => if x72 = true then (some false) else ((impl_Cmd_is.f k x310000 x310001 x310002 x310003 x310004 x310005 x310006 x310007 x310008 x310009 x310010 x310011 x310012 x310013 (([14] : List Int))).bind fun t336 => (if t336 = true then (some true) else (if x310013 = 0 then (some true) else (some false))))
def impl_Cmd_isOnly.j1 : Nat → Bool → ByteArray → Int → ByteArray → List (S100) → Int → Int → Int → List Int → Int → List Int → Int → Bool → List (S104) → Int → Option (Bool)
 | 0, _, _, _, _, _, _, _, _, _, _, _, _, _, _, _ => none
 | k + 1, x3, x310000, x310001, x310002, x310003, x310004, x310005, x310006, x310007, x310008, x310009, x310010, x310011, x310012, x310013 => if x3 = true then (impl_Cmd_isOnly.j2 k x3 x310000 x310001 x310002 x310003 x310004 x310005 x310006 x310007 x310008 x310009 x310010 x310011 x310012 x310013) else ((impl_Cmd_is.f k x310000 x310001 x310002 x310003 x310004 x310005 x310006 x310007 x310008 x310009 x310010 x310011 x310012 x310013 (([7] : List Int))).bind fun t315 => (if t315 = true then ((impl_Cmd_hasFlags.f k x310000 x310001 x310002 x310003 x310004 x310005 x310006 x310007 x310008 x310009 x310010 x310011 x310012 x310013).bind fun t316 => (if t316 = true then (impl_Cmd_isOnly.j2 k false x310000 x310001 x310002 x310003 x310004 x310005 x310006 x310007 x310008 x310009 x310010 x310011 x310012 x310013) else (impl_Cmd_isOnly.j2 k (x310005 != 0) x310000 x310001 x310002 x310003 x310004 x310005 x310006 x310007 x310008 x310009 x310010 x310011 x310012 x310013))) else (if x310004 = 0 then ((impl_Cmd_hasFlags.f k x310000 x310001 x310002 x310003 x310004 x310005 x310006 x310007 x310008 x310009 x310010 x310011 x310012 x310013).bind fun t317 => (if t317 = true then (impl_Cmd_isOnly.j2 k false x310000 x310001 x310002 x310003 x310004 x310005 x310006 x310007 x310008 x310009 x310010 x310011 x310012 x310013) else (impl_Cmd_isOnly.j2 k (x310005 != 0) x310000 x310001 x310002 x310003 x310004 x310005 x310006 x310007 x310008 x310009 x310010 x310011 x310012 x310013))) else (impl_Cmd_isOnly.j2 k (x310004 != 0) x310000 x310001 x310002 x310003 x310004 x310005 x310006 x310007 x310008 x310009 x310010 x310011 x310012 x310013))))
end
def impl_Cmd_isOnly.f (k : Nat) (a0_0 : ByteArray) (a0_1 : Int) (a0_2 : ByteArray) (l0_3 : List (S100)) (a0_4 : Int) (a0_5 : Int) (a0_6 : Int) (l0_7 : List Int) (a0_8 : Int) (l0_9 : List Int) (a0_10 : Int) (a0_11 : Bool) (l0_12 : List (S104)) (a0_13 : Int) : Option (Bool) := (impl_Cmd_hasName.f k a0_0 a0_1 a0_2 l0_3 a0_4 a0_5 a0_6 l0_7 a0_8 l0_9 a0_10 a0_11 l0_12 a0_13).bind fun t310 => (if t310 = true then (impl_Cmd_isOnly.j0 k false a0_0 a0_1 a0_2 l0_3 a0_4 a0_5 a0_6 l0_7 a0_8 l0_9 a0_10 a0_11 l0_12 a0_13) else (impl_Cmd_isOnly.j0 k (a0_2.toList != ([] : List UInt8)) a0_0 a0_1 a0_2 l0_3 a0_4 a0_5 a0_6 l0_7 a0_8 l0_9 a0_10 a0_11 l0_12 a0_13))
set_option maxHeartbeats 8000000 in
set_option maxRecDepth 100000 in
theorem impl_Cmd_isOnly.calls (k : Nat) (a0_0 : ByteArray) (a0_1 : Int) (a0_2 : ByteArray) (A0_3 : Option Addr) (c0_3 : Nat) (l0_3 : List (S100)) (a0_4 : Int) (a0_5 : Int) (a0_6 : Int) (A0_7 : Option Addr) (c0_7 : Nat) (l0_7 : List Int) (a0_8 : Int) (A0_9 : Option Addr) (c0_9 : Nat) (l0_9 : List Int) (a0_10 : Int) (a0_11 : Bool) (A0_12 : Option Addr) (c0_12 : Nat) (l0_12 : List (S104)) (a0_13 : Int) (r : Bool) (w : World) (hr0_3 : Kd.C k100 w A0_3 l0_3.length l0_3) (hc0_3 : l0_3.length ≤ c0_3) (hr0_7 : Kd.C (Kd.int .u8) w A0_7 l0_7.length l0_7) (hc0_7 : l0_7.length ≤ c0_7) (hr0_9 : Kd.C (Kd.int .i64) w A0_9 l0_9.length l0_9) (hc0_9 : l0_9.length ≤ c0_9) (hr0_12 : Kd.C k104 w A0_12 l0_12.length l0_12) (hc0_12 : l0_12.length ≤ c0_12) (h : impl_Cmd_isOnly.f k a0_0 a0_1 a0_2 l0_3 a0_4 a0_5 a0_6 l0_7 a0_8 l0_9 a0_10 a0_11 l0_12 a0_13 = some r) :
 Calls Try.prog 38 #[.agg #[.string a0_0, .int .i64 a0_1, .string a0_2, .slice A0_3 l0_3.length c0_3, .int .i64 a0_4, .int .i64 a0_5, .int .i64 a0_6, .slice A0_7 l0_7.length c0_7, .int .i64 a0_8, .slice A0_9 l0_9.length c0_9, .int .i64 a0_10, .bool a0_11, .slice A0_12 l0_12.length c0_12, .int .i64 a0_13]] w fun e w' => e = .returned (.bool r) ∧ Below w.heap.size w w' := by
 have hu33 := Try.underlying33
 have HR0_3 := Aside0.mk hr0_3
 have HC0_3 := Aside0.mk hc0_3
 clear hr0_3 hc0_3
 have HR0_7 := Aside0.mk hr0_7
 have HC0_7 := Aside0.mk hc0_7
 clear hr0_7 hc0_7
 have HR0_9 := Aside0.mk hr0_9
 have HC0_9 := Aside0.mk hc0_9
 clear hr0_9 hc0_9
 have HR0_12 := Aside0.mk hr0_12
 have HC0_12 := Aside0.mk hc0_12
 clear hr0_12 hc0_12
 have HB := Aside0.mk (Below.refl w.heap.size w)
 have H : ((impl_Cmd_hasName.f k a0_0 a0_1 a0_2 l0_3 a0_4 a0_5 a0_6 l0_7 a0_8 l0_9 a0_10 a0_11 l0_12 a0_13).bind fun t310 => (if t310 = true then (impl_Cmd_isOnly.j0 k false a0_0 a0_1 a0_2 l0_3 a0_4 a0_5 a0_6 l0_7 a0_8 l0_9 a0_10 a0_11 l0_12 a0_13) else (impl_Cmd_isOnly.j0 k (a0_2.toList != ([] : List UInt8)) a0_0 a0_1 a0_2 l0_3 a0_4 a0_5 a0_6 l0_7 a0_8 l0_9 a0_10 a0_11 l0_12 a0_13))) = some r := h
 clear h
 have HC2 := Aside0.mk H
 clear H
 go_enter Try.func38, Try.ntmps38
 go_upto_region 1 with (first | ((with_reducible refine gate_dst (N := 1) rfl ?_); (try (refine gate_guard (by rfl) ?_; dsimp only)); refine box_event ?hg (N := 1) ?hd (cs := #[.string a0_0, .int .i64 a0_1, .string a0_2, .slice A0_3 l0_3.length c0_3, .int .i64 a0_4, .int .i64 a0_5, .int .i64 a0_6, .slice A0_7 l0_7.length c0_7, .int .i64 a0_8, .slice A0_9 l0_9.length c0_9, .int .i64 a0_10, .bool a0_11, .slice A0_12 l0_12.length c0_12, .int .i64 a0_13]) (t := 33) ?hr ?_; (case hd => rfl); (case hg => rfl); (case hr => first | (go_simp; done) | (go_simp; rfl)); intro gb309 hg w3 hbox hb; have n0_ := Aside0.mk (below_step (HB_up HB.out) hb); have n1_ := Aside0.mk (hbox); have n2_ := Aside0.mk ((by rw [hg]; exact (below_size (HB_up HB.out)) : w.heap.size ≤ gb309)); have n3_ := Aside0.mk ((by rw [hg]; exact (below_size (HB_up HB.out)) : w.heap.size ≤ gb309)); clear HB; have HB := n0_; have BK309 := n1_; have GW309 := n2_; have GE309 := n3_; clear n0_ n1_ n2_ n3_; clear hb hbox hg))
 (try simp only [Act.put, List.setIfInBounds_toArray, List.set_cons_zero, List.set_cons_succ])
 go_cut [3] (fun v3 wc => ∃ (kq : Nat) (x3_1 : Bool), v3 = .bool x3_1 ∧ Aside0 (impl_Cmd_isOnly.j0 kq x3_1 a0_0 a0_1 a0_2 l0_3 a0_4 a0_5 a0_6 l0_7 a0_8 l0_9 a0_10 a0_11 l0_12 a0_13 = some r) ∧ Aside0 (kq ≤ k) ∧ Aside0 (wc.heap[gb309]? = some (.cells #[.string a0_0, .int .i64 a0_1, .string a0_2, (.slice A0_3 l0_3.length c0_3), .int .i64 a0_4, .int .i64 a0_5, .int .i64 a0_6, (.slice A0_7 l0_7.length c0_7), .int .i64 a0_8, (.slice A0_9 l0_9.length c0_9), .int .i64 a0_10, .bool a0_11, (.slice A0_12 l0_12.length c0_12), .int .i64 a0_13] 33 (0, 0))) ∧ Aside0 (Below w.heap.size w wc))
 case first =>
  have H := HC2.out
  clear HC2
  replace H := Option.bind_eq_some_iff.mp H
  obtain ⟨t310, A40, H⟩ := H
  (try dsimp only at H)
  have A4 := Aside0.mk A40
  clear A40
  by_cases c5 : t310 = true
  ·
   subst c5
   (try rw [if_pos rfl] at H)
   have H' := Aside0.mk H
   clear H
   obtain ⟨hcz6_0, hcz6_1, hcz6_2, hcz6_3, hcz6_4, hcz6_5, hcz6_6, hcz6_7, hcz6_8, hcz6_9, hcz6_10, hcz6_11, hcz6_12, hcz6_13⟩ := blk_cells14 BK309.out
   obtain ⟨hfz6_0, hfz6_1, hfz6_2, hfz6_3, hfz6_4, hfz6_5, hfz6_6, hfz6_7, hfz6_8, hfz6_9, hfz6_10, hfz6_11, hfz6_12, hfz6_13⟩ := blk_frozen14 BK309.out
   go_wp2_with (first | ((with_reducible refine gate_callee (f := 39) rfl ?_); refine goesY_ (some 5) Try.func39 #[.agg #[.string a0_0, .int .i64 a0_1, .string a0_2, .slice A0_3 l0_3.length c0_3, .int .i64 a0_4, .int .i64 a0_5, .int .i64 a0_6, .slice A0_7 l0_7.length c0_7, .int .i64 a0_8, .slice A0_9 l0_9.length c0_9, .int .i64 a0_10, .bool a0_11, .slice A0_12 l0_12.length c0_12, .int .i64 a0_13]] rfl ?_; (with_reducible refine (impl_Cmd_hasName.calls k a0_0 a0_1 a0_2 _ _ l0_3 a0_4 a0_5 a0_6 _ _ l0_7 a0_8 _ _ l0_9 a0_10 a0_11 _ _ l0_12 a0_13 true _ ?_ ?_ ?_ ?_ ?_ ?_ ?_ ?_ A4.out).mono ?_); exact C_up (Kd.C_below HR0_3.out HB.out); exact HC0_3.out; exact C_up (Kd.C_below HR0_7.out HB.out); exact HC0_7.out; exact C_up (Kd.C_below HR0_9.out HB.out); exact HC0_9.out; exact C_up (Kd.C_below HR0_12.out HB.out); exact HC0_12.out; rintro e w7 ⟨rfl, hb⟩; refine ⟨_, rfl, ?_⟩; replace BK309 := Aside0.mk (blk_below (g := gb309) (blk_up BK309.out) hb); replace HB := Aside0.mk (below_step (HB_up HB.out) hb); (try clear hb)))
   go_meet
   case rel => exact ⟨_, (false), vl_, H', ⟨le_⟩, ⟨blk_up BK309.out⟩, ⟨hs_⟩⟩
  ·
   replace c5 := Bool.eq_false_iff.mpr c5
   subst c5
   (try rw [if_neg (show ¬ (false = true) by decide)] at H)
   have H' := Aside0.mk H
   clear H
   obtain ⟨_, _, _, _, _, _, _, _, _, _, _, _, _, _⟩ := blk_cells14 BK309.out
   obtain ⟨_, _, _, _, _, _, _, _, _, _, _, _, _, _⟩ := blk_frozen14 BK309.out
   go_wp2_with (first | ((with_reducible refine gate_callee (f := 39) rfl ?_); refine goesY_ (some 5) Try.func39 #[.agg #[.string a0_0, .int .i64 a0_1, .string a0_2, .slice A0_3 l0_3.length c0_3, .int .i64 a0_4, .int .i64 a0_5, .int .i64 a0_6, .slice A0_7 l0_7.length c0_7, .int .i64 a0_8, .slice A0_9 l0_9.length c0_9, .int .i64 a0_10, .bool a0_11, .slice A0_12 l0_12.length c0_12, .int .i64 a0_13]] rfl ?_; (with_reducible refine (impl_Cmd_hasName.calls k a0_0 a0_1 a0_2 _ _ l0_3 a0_4 a0_5 a0_6 _ _ l0_7 a0_8 _ _ l0_9 a0_10 a0_11 _ _ l0_12 a0_13 false _ ?_ ?_ ?_ ?_ ?_ ?_ ?_ ?_ A4.out).mono ?_); exact C_up (Kd.C_below HR0_3.out HB.out); exact HC0_3.out; exact C_up (Kd.C_below HR0_7.out HB.out); exact HC0_7.out; exact C_up (Kd.C_below HR0_9.out HB.out); exact HC0_9.out; exact C_up (Kd.C_below HR0_12.out HB.out); exact HC0_12.out; rintro e w9 ⟨rfl, hb⟩; refine ⟨_, rfl, ?_⟩; replace BK309 := Aside0.mk (blk_below (g := gb309) (blk_up BK309.out) hb); replace HB := Aside0.mk (below_step (HB_up HB.out) hb); (try clear hb); obtain ⟨_, _, _, _, _, _, _, _, _, _, _, _, _, _⟩ := blk_cells14 BK309.out; obtain ⟨_, _, _, _, _, _, _, _, _, _, _, _, _, _⟩ := blk_frozen14 BK309.out))
   go_meet
   case rel => exact ⟨_, ((a0_2.toList != ([] : List UInt8))), vl_, H', ⟨le_⟩, ⟨blk_up BK309.out⟩, ⟨hs_⟩⟩
 case rest =>
  clear HC2
  obtain ⟨kq, x3_1, rfl, HA, HJ1, BK309, HB⟩ := hcut
  cases kq with
  | zero => exact absurd HA.out (by simp [impl_Cmd_isOnly.j0])
  | succ kj1 =>
    have H := HA.out
    clear HA
    simp only [impl_Cmd_isOnly.j0] at H
    have HC11 := Aside0.mk H
    clear H
    go_upto_if 3 with (fail)
    go_cut [3] (fun v3 wc => ∃ (kq : Nat) (x3_10 : Bool), v3 = .bool x3_10 ∧ Aside0 (impl_Cmd_isOnly.j2 kq x3_10 a0_0 a0_1 a0_2 l0_3 a0_4 a0_5 a0_6 l0_7 a0_8 l0_9 a0_10 a0_11 l0_12 a0_13 = some r) ∧ Aside0 (kq ≤ kj1) ∧ Aside0 (wc.heap[gb309]? = some (.cells #[.string a0_0, .int .i64 a0_1, .string a0_2, (.slice A0_3 l0_3.length c0_3), .int .i64 a0_4, .int .i64 a0_5, .int .i64 a0_6, (.slice A0_7 l0_7.length c0_7), .int .i64 a0_8, (.slice A0_9 l0_9.length c0_9), .int .i64 a0_10, .bool a0_11, (.slice A0_12 l0_12.length c0_12), .int .i64 a0_13] 33 (0, 0))) ∧ Aside0 (Below w.heap.size w wc))
    case first =>
     have H := HC11.out
     clear HC11
     by_cases c12 : x3_1 = true
     ·
      subst c12
      (try rw [if_pos rfl] at H)
      have H' := Aside0.mk H
      clear H
      go_wp2
      go_meet
      case rel => exact ⟨_, (true), vl_, H', ⟨by have := HJ1.out; first | omega | exact Nat.le_refl _⟩, ⟨blk_up BK309.out⟩, ⟨hs_⟩⟩
     ·
      replace c12 := Bool.eq_false_iff.mpr c12
      subst c12
      (try rw [if_neg (show ¬ (false = true) by decide)] at H)
      have HC13 := Aside0.mk H
      clear H
      go_upto_region 2 with (fail)
      go_cut [3] (fun v3 wc => ∃ (kq : Nat) (x3_12 : Bool), v3 = .bool x3_12 ∧ Aside0 (impl_Cmd_isOnly.j1 kq x3_12 a0_0 a0_1 a0_2 l0_3 a0_4 a0_5 a0_6 l0_7 a0_8 l0_9 a0_10 a0_11 l0_12 a0_13 = some r) ∧ Aside0 (kq ≤ kj1) ∧ Aside0 (wc.heap[gb309]? = some (.cells #[.string a0_0, .int .i64 a0_1, .string a0_2, (.slice A0_3 l0_3.length c0_3), .int .i64 a0_4, .int .i64 a0_5, .int .i64 a0_6, (.slice A0_7 l0_7.length c0_7), .int .i64 a0_8, (.slice A0_9 l0_9.length c0_9), .int .i64 a0_10, .bool a0_11, (.slice A0_12 l0_12.length c0_12), .int .i64 a0_13] 33 (0, 0))) ∧ Aside0 (Below w.heap.size w wc))
      case first =>
       have H := HC13.out
       clear HC13
       replace H := Option.bind_eq_some_iff.mp H
       obtain ⟨t311, A140, H⟩ := H
       (try dsimp only at H)
       have A14 := Aside0.mk A140
       clear A140
       by_cases c15 : t311 = true
       ·
        subst c15
        (try rw [if_pos rfl] at H)
        have H' := Aside0.mk H
        clear H
        obtain ⟨_, _, _, _, _, _, _, _, _, _, _, _, _, _⟩ := blk_cells14 BK309.out
        obtain ⟨_, _, _, _, _, _, _, _, _, _, _, _, _, _⟩ := blk_frozen14 BK309.out
        go_wp2_with (first | ((with_reducible refine gate_callee (f := 41) rfl ?_); refine goesY_ (some 13) Try.func41 #[.agg #[.string a0_0, .int .i64 a0_1, .string a0_2, .slice A0_3 l0_3.length c0_3, .int .i64 a0_4, .int .i64 a0_5, .int .i64 a0_6, .slice A0_7 l0_7.length c0_7, .int .i64 a0_8, .slice A0_9 l0_9.length c0_9, .int .i64 a0_10, .bool a0_11, .slice A0_12 l0_12.length c0_12, .int .i64 a0_13]] rfl ?_; (with_reducible refine (impl_Cmd_hasRanges.calls kj1 a0_0 a0_1 a0_2 _ _ l0_3 a0_4 a0_5 a0_6 _ _ l0_7 a0_8 _ _ l0_9 a0_10 a0_11 _ _ l0_12 a0_13 true _ ?_ ?_ ?_ ?_ ?_ ?_ ?_ ?_ A14.out).mono ?_); exact C_up (Kd.C_below HR0_3.out HB.out); exact HC0_3.out; exact C_up (Kd.C_below HR0_7.out HB.out); exact HC0_7.out; exact C_up (Kd.C_below HR0_9.out HB.out); exact HC0_9.out; exact C_up (Kd.C_below HR0_12.out HB.out); exact HC0_12.out; rintro e w17 ⟨rfl, hb⟩; refine ⟨_, rfl, ?_⟩; replace BK309 := Aside0.mk (blk_below (g := gb309) (blk_up BK309.out) hb); replace HB := Aside0.mk (below_step (HB_up HB.out) hb); (try clear hb)))
        go_meet
        case rel => exact ⟨_, (false), vl_, H', ⟨by have := HJ1.out; first | omega | exact Nat.le_refl _⟩, ⟨blk_up BK309.out⟩, ⟨hs_⟩⟩
       ·
        replace c15 := Bool.eq_false_iff.mpr c15
        subst c15
        (try rw [if_neg (show ¬ (false = true) by decide)] at H)
        have H' := Aside0.mk H
        clear H
        obtain ⟨_, _, _, _, _, _, _, _, _, _, _, _, _, _⟩ := blk_cells14 BK309.out
        obtain ⟨_, _, _, _, _, _, _, _, _, _, _, _, _, _⟩ := blk_frozen14 BK309.out
        go_wp2_with (first | ((with_reducible refine gate_callee (f := 41) rfl ?_); refine goesY_ (some 13) Try.func41 #[.agg #[.string a0_0, .int .i64 a0_1, .string a0_2, .slice A0_3 l0_3.length c0_3, .int .i64 a0_4, .int .i64 a0_5, .int .i64 a0_6, .slice A0_7 l0_7.length c0_7, .int .i64 a0_8, .slice A0_9 l0_9.length c0_9, .int .i64 a0_10, .bool a0_11, .slice A0_12 l0_12.length c0_12, .int .i64 a0_13]] rfl ?_; (with_reducible refine (impl_Cmd_hasRanges.calls kj1 a0_0 a0_1 a0_2 _ _ l0_3 a0_4 a0_5 a0_6 _ _ l0_7 a0_8 _ _ l0_9 a0_10 a0_11 _ _ l0_12 a0_13 false _ ?_ ?_ ?_ ?_ ?_ ?_ ?_ ?_ A14.out).mono ?_); exact C_up (Kd.C_below HR0_3.out HB.out); exact HC0_3.out; exact C_up (Kd.C_below HR0_7.out HB.out); exact HC0_7.out; exact C_up (Kd.C_below HR0_9.out HB.out); exact HC0_9.out; exact C_up (Kd.C_below HR0_12.out HB.out); exact HC0_12.out; rintro e w19 ⟨rfl, hb⟩; refine ⟨_, rfl, ?_⟩; replace BK309 := Aside0.mk (blk_below (g := gb309) (blk_up BK309.out) hb); replace HB := Aside0.mk (below_step (HB_up HB.out) hb); (try clear hb); obtain ⟨_, _, _, _, _, _, _, _, _, _, _, _, _, _⟩ := blk_cells14 BK309.out; obtain ⟨_, _, _, _, _, _, _, _, _, _, _, _, _, _⟩ := blk_frozen14 BK309.out))
        go_meet
        case rel => exact ⟨_, (decide ((l0_3.length : Int) > 0)), vl_, H', ⟨by have := HJ1.out; first | omega | exact Nat.le_refl _⟩, ⟨blk_up BK309.out⟩, ⟨hs_⟩⟩
      case rest =>
       clear HC13
       try clear c12
       obtain ⟨kq, x3_12, rfl, HA, HJ12, BK309, HB⟩ := hcut
       cases kq with
       | zero => exact absurd HA.out (by simp [impl_Cmd_isOnly.j1])
       | succ kj12 =>
         have H := HA.out
         clear HA
         simp only [impl_Cmd_isOnly.j1] at H
         as_aux_lemma =>
         by_cases c21 : x3_12 = true
         ·
          subst c21
          (try rw [if_pos rfl] at H)
          have H' := Aside0.mk H
          clear H
          go_wp2
          go_meet
          case rel => exact ⟨_, (true), vl_, H', ⟨by have := HJ1.out; have := HJ12.out; first | omega | exact Nat.le_refl _⟩, ⟨blk_up BK309.out⟩, ⟨hs_⟩⟩
         ·
          replace c21 := Bool.eq_false_iff.mpr c21
          subst c21
          (try rw [if_neg (show ¬ (false = true) by decide)] at H)
          obtain ⟨y312, hy312⟩ : ∃ y_ : List Int, y_ = (([7] : List Int)) := ⟨_, rfl⟩
          replace H : ((impl_Cmd_is.f kj12 a0_0 a0_1 a0_2 l0_3 a0_4 a0_5 a0_6 l0_7 a0_8 l0_9 a0_10 a0_11 l0_12 a0_13 y312).bind fun t315 => (if t315 = true then ((impl_Cmd_hasFlags.f kj12 a0_0 a0_1 a0_2 l0_3 a0_4 a0_5 a0_6 l0_7 a0_8 l0_9 a0_10 a0_11 l0_12 a0_13).bind fun t316 => (if t316 = true then (impl_Cmd_isOnly.j2 kj12 false a0_0 a0_1 a0_2 l0_3 a0_4 a0_5 a0_6 l0_7 a0_8 l0_9 a0_10 a0_11 l0_12 a0_13) else (impl_Cmd_isOnly.j2 kj12 (a0_5 != 0) a0_0 a0_1 a0_2 l0_3 a0_4 a0_5 a0_6 l0_7 a0_8 l0_9 a0_10 a0_11 l0_12 a0_13))) else (if a0_4 = 0 then ((impl_Cmd_hasFlags.f kj12 a0_0 a0_1 a0_2 l0_3 a0_4 a0_5 a0_6 l0_7 a0_8 l0_9 a0_10 a0_11 l0_12 a0_13).bind fun t317 => (if t317 = true then (impl_Cmd_isOnly.j2 kj12 false a0_0 a0_1 a0_2 l0_3 a0_4 a0_5 a0_6 l0_7 a0_8 l0_9 a0_10 a0_11 l0_12 a0_13) else (impl_Cmd_isOnly.j2 kj12 (a0_5 != 0) a0_0 a0_1 a0_2 l0_3 a0_4 a0_5 a0_6 l0_7 a0_8 l0_9 a0_10 a0_11 l0_12 a0_13))) else (impl_Cmd_isOnly.j2 kj12 (a0_4 != 0) a0_0 a0_1 a0_2 l0_3 a0_4 a0_5 a0_6 l0_7 a0_8 l0_9 a0_10 a0_11 l0_12 a0_13)))) = some r := by first | (rw [hy312]; with_reducible exact H) | (have H2_ := (Option.bind_some _ _).symm.trans H; rw [hy312]; with_reducible exact H2_) | (have H2_ := (Option.bind_some _ _).symm.trans H; with_reducible exact H2_) | with_reducible exact H | (rw [hy312]; exact H) | exact H
          have Ny312 := Aside0.mk hy312
          clear hy312
          replace H := Option.bind_eq_some_iff.mp H
          obtain ⟨t315, A220, H⟩ := H
          (try dsimp only at H)
          have A22 := Aside0.mk A220
          clear A220
          by_cases c23 : t315 = true
          ·
           subst c23
           (try rw [if_pos rfl] at H)
           replace H := Option.bind_eq_some_iff.mp H
           obtain ⟨t316, A240, H⟩ := H
           (try dsimp only at H)
           have A24 := Aside0.mk A240
           clear A240
           by_cases c25 : t316 = true
           ·
            subst c25
            (try rw [if_pos rfl] at H)
            have H' := Aside0.mk H
            clear H
            obtain ⟨_, _, _, _, _, _, _, _, _, _, _, _, _, _⟩ := blk_cells14 BK309.out
            obtain ⟨_, _, _, _, _, _, _, _, _, _, _, _, _, _⟩ := blk_frozen14 BK309.out
            go_wp2_with (first | ((with_reducible refine gate_dst (N := 22) rfl ?_); (try (refine gate_guard (by rfl) ?_; dsimp only)); refine Kd.R_lit (Kd.int .i64) _ 2 ?hg (N := 22) ?hd (xs := ([7] : List Int)) (inner := [.int .i64 7]) (ok := fun _ => True) (okp := fun _ => True) ?hr ?hp (fun _ hk => hk) trivial (Below.refl _ _) (Nat.le_refl _) (by simp) ?_; (case hd => rfl); (case hg => rfl); (case hr => first | (go_simp; done) | (go_simp; rfl)); (case hp => exact (Reps.one (show Kd.M (Kd.int .i64) _ _ _ 7 [.int .i64 7] from rfl) (Reps.none _ _))); intro v313 w27 ho28 hb hg_ hnew_; clear hg_ hnew_; (first | rw [← Ny312.out] at ho28 | (simp only [Int.reduceToNat] at ho28; rw [← Ny312.out] at ho28)); have HO314 := Aside0.mk (Kd.R_lower ho28 (below_size (HB_up HB.out))); replace BK309 := Aside0.mk (blk_below (g := gb309) (blk_up BK309.out) hb); replace HB := Aside0.mk (below_step (HB_up HB.out) hb); clear hb ho28; obtain ⟨Ao29, co29, eo29⟩ := Kd.R_slice HO314.out; subst eo29) | ((with_reducible refine gate_callee (f := 80) rfl ?_); refine goesY_ (some 23) Try.func80 #[.agg #[.string a0_0, .int .i64 a0_1, .string a0_2, .slice A0_3 l0_3.length c0_3, .int .i64 a0_4, .int .i64 a0_5, .int .i64 a0_6, .slice A0_7 l0_7.length c0_7, .int .i64 a0_8, .slice A0_9 l0_9.length c0_9, .int .i64 a0_10, .bool a0_11, .slice A0_12 l0_12.length c0_12, .int .i64 a0_13], .slice Ao29 y312.length co29] rfl ?_; (with_reducible refine (impl_Cmd_is.calls kj12 a0_0 a0_1 a0_2 _ _ l0_3 a0_4 a0_5 a0_6 _ _ l0_7 a0_8 _ _ l0_9 a0_10 a0_11 _ _ l0_12 a0_13 _ _ y312 true _ ?_ ?_ ?_ ?_ ?_ ?_ ?_ ?_ ?_ ?_ A22.out).mono ?_); exact C_up (Kd.C_below HR0_3.out HB.out); exact HC0_3.out; exact C_up (Kd.C_below HR0_7.out HB.out); exact HC0_7.out; exact C_up (Kd.C_below HR0_9.out HB.out); exact HC0_9.out; exact C_up (Kd.C_below HR0_12.out HB.out); exact HC0_12.out; exact C_up (Kd.R_reads' HO314.out).2.2; exact (Kd.R_reads' HO314.out).2.1; rintro e w30 ⟨rfl, hb⟩; refine ⟨_, rfl, ?_⟩; replace HO314 := Aside0.mk (Kd.R_below (R_up HO314.out) hb); replace BK309 := Aside0.mk (blk_below (g := gb309) (blk_up BK309.out) hb); replace HB := Aside0.mk (below_step (HB_up HB.out) hb); (try clear hb); obtain ⟨_, _, _, _, _, _, _, _, _, _, _, _, _, _⟩ := blk_cells14 BK309.out; obtain ⟨_, _, _, _, _, _, _, _, _, _, _, _, _, _⟩ := blk_frozen14 BK309.out) | ((with_reducible refine gate_callee (f := 81) rfl ?_); refine goesY_ (some 31) Try.func81 #[.agg #[.string a0_0, .int .i64 a0_1, .string a0_2, .slice A0_3 l0_3.length c0_3, .int .i64 a0_4, .int .i64 a0_5, .int .i64 a0_6, .slice A0_7 l0_7.length c0_7, .int .i64 a0_8, .slice A0_9 l0_9.length c0_9, .int .i64 a0_10, .bool a0_11, .slice A0_12 l0_12.length c0_12, .int .i64 a0_13]] rfl ?_; (with_reducible refine (impl_Cmd_hasFlags.calls kj12 a0_0 a0_1 a0_2 _ _ l0_3 a0_4 a0_5 a0_6 _ _ l0_7 a0_8 _ _ l0_9 a0_10 a0_11 _ _ l0_12 a0_13 true _ ?_ ?_ ?_ ?_ ?_ ?_ ?_ ?_ A24.out).mono ?_); exact C_up (Kd.C_below HR0_3.out HB.out); exact HC0_3.out; exact C_up (Kd.C_below HR0_7.out HB.out); exact HC0_7.out; exact C_up (Kd.C_below HR0_9.out HB.out); exact HC0_9.out; exact C_up (Kd.C_below HR0_12.out HB.out); exact HC0_12.out; rintro e w32 ⟨rfl, hb⟩; refine ⟨_, rfl, ?_⟩; replace HO314 := Aside0.mk (Kd.R_below (R_up HO314.out) hb); replace BK309 := Aside0.mk (blk_below (g := gb309) (blk_up BK309.out) hb); replace HB := Aside0.mk (below_step (HB_up HB.out) hb); (try clear hb)))
            go_meet
            case rel => exact ⟨_, (false), vl_, H', ⟨by have := HJ1.out; have := HJ12.out; first | omega | exact Nat.le_refl _⟩, ⟨blk_up BK309.out⟩, ⟨hs_⟩⟩
           ·
            replace c25 := Bool.eq_false_iff.mpr c25
            subst c25
            (try rw [if_neg (show ¬ (false = true) by decide)] at H)
            have H' := Aside0.mk H
            clear H
            obtain ⟨_, _, _, _, _, _, _, _, _, _, _, _, _, _⟩ := blk_cells14 BK309.out
            obtain ⟨_, _, _, _, _, _, _, _, _, _, _, _, _, _⟩ := blk_frozen14 BK309.out
            go_wp2_with (first | ((with_reducible refine gate_dst (N := 22) rfl ?_); (try (refine gate_guard (by rfl) ?_; dsimp only)); refine Kd.R_lit (Kd.int .i64) _ 2 ?hg (N := 22) ?hd (xs := ([7] : List Int)) (inner := [.int .i64 7]) (ok := fun _ => True) (okp := fun _ => True) ?hr ?hp (fun _ hk => hk) trivial (Below.refl _ _) (Nat.le_refl _) (by simp) ?_; (case hd => rfl); (case hg => rfl); (case hr => first | (go_simp; done) | (go_simp; rfl)); (case hp => exact (Reps.one (show Kd.M (Kd.int .i64) _ _ _ 7 [.int .i64 7] from rfl) (Reps.none _ _))); intro v313 w34 ho35 hb hg_ hnew_; clear hg_ hnew_; (first | rw [← Ny312.out] at ho35 | (simp only [Int.reduceToNat] at ho35; rw [← Ny312.out] at ho35)); have HO314 := Aside0.mk (Kd.R_lower ho35 (below_size (HB_up HB.out))); replace BK309 := Aside0.mk (blk_below (g := gb309) (blk_up BK309.out) hb); replace HB := Aside0.mk (below_step (HB_up HB.out) hb); clear hb ho35; obtain ⟨Ao36, co36, eo36⟩ := Kd.R_slice HO314.out; subst eo36) | ((with_reducible refine gate_callee (f := 80) rfl ?_); refine goesY_ (some 23) Try.func80 #[.agg #[.string a0_0, .int .i64 a0_1, .string a0_2, .slice A0_3 l0_3.length c0_3, .int .i64 a0_4, .int .i64 a0_5, .int .i64 a0_6, .slice A0_7 l0_7.length c0_7, .int .i64 a0_8, .slice A0_9 l0_9.length c0_9, .int .i64 a0_10, .bool a0_11, .slice A0_12 l0_12.length c0_12, .int .i64 a0_13], .slice Ao36 y312.length co36] rfl ?_; (with_reducible refine (impl_Cmd_is.calls kj12 a0_0 a0_1 a0_2 _ _ l0_3 a0_4 a0_5 a0_6 _ _ l0_7 a0_8 _ _ l0_9 a0_10 a0_11 _ _ l0_12 a0_13 _ _ y312 true _ ?_ ?_ ?_ ?_ ?_ ?_ ?_ ?_ ?_ ?_ A22.out).mono ?_); exact C_up (Kd.C_below HR0_3.out HB.out); exact HC0_3.out; exact C_up (Kd.C_below HR0_7.out HB.out); exact HC0_7.out; exact C_up (Kd.C_below HR0_9.out HB.out); exact HC0_9.out; exact C_up (Kd.C_below HR0_12.out HB.out); exact HC0_12.out; exact C_up (Kd.R_reads' HO314.out).2.2; exact (Kd.R_reads' HO314.out).2.1; rintro e w37 ⟨rfl, hb⟩; refine ⟨_, rfl, ?_⟩; replace HO314 := Aside0.mk (Kd.R_below (R_up HO314.out) hb); replace BK309 := Aside0.mk (blk_below (g := gb309) (blk_up BK309.out) hb); replace HB := Aside0.mk (below_step (HB_up HB.out) hb); (try clear hb); obtain ⟨_, _, _, _, _, _, _, _, _, _, _, _, _, _⟩ := blk_cells14 BK309.out; obtain ⟨_, _, _, _, _, _, _, _, _, _, _, _, _, _⟩ := blk_frozen14 BK309.out) | ((with_reducible refine gate_callee (f := 81) rfl ?_); refine goesY_ (some 31) Try.func81 #[.agg #[.string a0_0, .int .i64 a0_1, .string a0_2, .slice A0_3 l0_3.length c0_3, .int .i64 a0_4, .int .i64 a0_5, .int .i64 a0_6, .slice A0_7 l0_7.length c0_7, .int .i64 a0_8, .slice A0_9 l0_9.length c0_9, .int .i64 a0_10, .bool a0_11, .slice A0_12 l0_12.length c0_12, .int .i64 a0_13]] rfl ?_; (with_reducible refine (impl_Cmd_hasFlags.calls kj12 a0_0 a0_1 a0_2 _ _ l0_3 a0_4 a0_5 a0_6 _ _ l0_7 a0_8 _ _ l0_9 a0_10 a0_11 _ _ l0_12 a0_13 false _ ?_ ?_ ?_ ?_ ?_ ?_ ?_ ?_ A24.out).mono ?_); exact C_up (Kd.C_below HR0_3.out HB.out); exact HC0_3.out; exact C_up (Kd.C_below HR0_7.out HB.out); exact HC0_7.out; exact C_up (Kd.C_below HR0_9.out HB.out); exact HC0_9.out; exact C_up (Kd.C_below HR0_12.out HB.out); exact HC0_12.out; rintro e w39 ⟨rfl, hb⟩; refine ⟨_, rfl, ?_⟩; replace HO314 := Aside0.mk (Kd.R_below (R_up HO314.out) hb); replace BK309 := Aside0.mk (blk_below (g := gb309) (blk_up BK309.out) hb); replace HB := Aside0.mk (below_step (HB_up HB.out) hb); (try clear hb); obtain ⟨_, _, _, _, _, _, _, _, _, _, _, _, _, _⟩ := blk_cells14 BK309.out; obtain ⟨_, _, _, _, _, _, _, _, _, _, _, _, _, _⟩ := blk_frozen14 BK309.out))
            go_meet
            case rel => exact ⟨_, ((a0_5 != 0)), vl_, H', ⟨by have := HJ1.out; have := HJ12.out; first | omega | exact Nat.le_refl _⟩, ⟨blk_up BK309.out⟩, ⟨hs_⟩⟩
          ·
           replace c23 := Bool.eq_false_iff.mpr c23
           subst c23
           (try rw [if_neg (show ¬ (false = true) by decide)] at H)
           by_cases c41 : a0_4 = 0
           ·
            rw [if_pos c41] at H
            have c41b0 : (a0_4 == 0) = true := beq_iff_eq.mpr c41
            have c41b1 : (a0_4 != 0) = false := bne_eq_false_iff_eq.mpr c41
            clear c41
            replace H := Option.bind_eq_some_iff.mp H
            obtain ⟨t317, A420, H⟩ := H
            (try dsimp only at H)
            have A42 := Aside0.mk A420
            clear A420
            by_cases c43 : t317 = true
            ·
             subst c43
             (try rw [if_pos rfl] at H)
             have H' := Aside0.mk H
             clear H
             obtain ⟨_, _, _, _, _, _, _, _, _, _, _, _, _, _⟩ := blk_cells14 BK309.out
             obtain ⟨_, _, _, _, _, _, _, _, _, _, _, _, _, _⟩ := blk_frozen14 BK309.out
             go_wp2_with (first | ((with_reducible refine gate_dst (N := 22) rfl ?_); (try (refine gate_guard (by rfl) ?_; dsimp only)); refine Kd.R_lit (Kd.int .i64) _ 2 ?hg (N := 22) ?hd (xs := ([7] : List Int)) (inner := [.int .i64 7]) (ok := fun _ => True) (okp := fun _ => True) ?hr ?hp (fun _ hk => hk) trivial (Below.refl _ _) (Nat.le_refl _) (by simp) ?_; (case hd => rfl); (case hg => rfl); (case hr => first | (go_simp; done) | (go_simp; rfl)); (case hp => exact (Reps.one (show Kd.M (Kd.int .i64) _ _ _ 7 [.int .i64 7] from rfl) (Reps.none _ _))); intro v313 w45 ho46 hb hg_ hnew_; clear hg_ hnew_; (first | rw [← Ny312.out] at ho46 | (simp only [Int.reduceToNat] at ho46; rw [← Ny312.out] at ho46)); have HO314 := Aside0.mk (Kd.R_lower ho46 (below_size (HB_up HB.out))); replace BK309 := Aside0.mk (blk_below (g := gb309) (blk_up BK309.out) hb); replace HB := Aside0.mk (below_step (HB_up HB.out) hb); clear hb ho46; obtain ⟨Ao47, co47, eo47⟩ := Kd.R_slice HO314.out; subst eo47) | ((with_reducible refine gate_callee (f := 80) rfl ?_); refine goesY_ (some 23) Try.func80 #[.agg #[.string a0_0, .int .i64 a0_1, .string a0_2, .slice A0_3 l0_3.length c0_3, .int .i64 a0_4, .int .i64 a0_5, .int .i64 a0_6, .slice A0_7 l0_7.length c0_7, .int .i64 a0_8, .slice A0_9 l0_9.length c0_9, .int .i64 a0_10, .bool a0_11, .slice A0_12 l0_12.length c0_12, .int .i64 a0_13], .slice Ao47 y312.length co47] rfl ?_; (with_reducible refine (impl_Cmd_is.calls kj12 a0_0 a0_1 a0_2 _ _ l0_3 a0_4 a0_5 a0_6 _ _ l0_7 a0_8 _ _ l0_9 a0_10 a0_11 _ _ l0_12 a0_13 _ _ y312 false _ ?_ ?_ ?_ ?_ ?_ ?_ ?_ ?_ ?_ ?_ A22.out).mono ?_); exact C_up (Kd.C_below HR0_3.out HB.out); exact HC0_3.out; exact C_up (Kd.C_below HR0_7.out HB.out); exact HC0_7.out; exact C_up (Kd.C_below HR0_9.out HB.out); exact HC0_9.out; exact C_up (Kd.C_below HR0_12.out HB.out); exact HC0_12.out; exact C_up (Kd.R_reads' HO314.out).2.2; exact (Kd.R_reads' HO314.out).2.1; rintro e w48 ⟨rfl, hb⟩; refine ⟨_, rfl, ?_⟩; replace HO314 := Aside0.mk (Kd.R_below (R_up HO314.out) hb); replace BK309 := Aside0.mk (blk_below (g := gb309) (blk_up BK309.out) hb); replace HB := Aside0.mk (below_step (HB_up HB.out) hb); (try clear hb); obtain ⟨_, _, _, _, _, _, _, _, _, _, _, _, _, _⟩ := blk_cells14 BK309.out; obtain ⟨_, _, _, _, _, _, _, _, _, _, _, _, _, _⟩ := blk_frozen14 BK309.out) | ((with_reducible refine gate_callee (f := 81) rfl ?_); refine goesY_ (some 31) Try.func81 #[.agg #[.string a0_0, .int .i64 a0_1, .string a0_2, .slice A0_3 l0_3.length c0_3, .int .i64 a0_4, .int .i64 a0_5, .int .i64 a0_6, .slice A0_7 l0_7.length c0_7, .int .i64 a0_8, .slice A0_9 l0_9.length c0_9, .int .i64 a0_10, .bool a0_11, .slice A0_12 l0_12.length c0_12, .int .i64 a0_13]] rfl ?_; (with_reducible refine (impl_Cmd_hasFlags.calls kj12 a0_0 a0_1 a0_2 _ _ l0_3 a0_4 a0_5 a0_6 _ _ l0_7 a0_8 _ _ l0_9 a0_10 a0_11 _ _ l0_12 a0_13 true _ ?_ ?_ ?_ ?_ ?_ ?_ ?_ ?_ A42.out).mono ?_); exact C_up (Kd.C_below HR0_3.out HB.out); exact HC0_3.out; exact C_up (Kd.C_below HR0_7.out HB.out); exact HC0_7.out; exact C_up (Kd.C_below HR0_9.out HB.out); exact HC0_9.out; exact C_up (Kd.C_below HR0_12.out HB.out); exact HC0_12.out; rintro e w50 ⟨rfl, hb⟩; refine ⟨_, rfl, ?_⟩; replace HO314 := Aside0.mk (Kd.R_below (R_up HO314.out) hb); replace BK309 := Aside0.mk (blk_below (g := gb309) (blk_up BK309.out) hb); replace HB := Aside0.mk (below_step (HB_up HB.out) hb); (try clear hb)))
             go_meet
             case rel => exact ⟨_, (false), vl_, H', ⟨by have := HJ1.out; have := HJ12.out; first | omega | exact Nat.le_refl _⟩, ⟨blk_up BK309.out⟩, ⟨hs_⟩⟩
            ·
             replace c43 := Bool.eq_false_iff.mpr c43
             subst c43
             (try rw [if_neg (show ¬ (false = true) by decide)] at H)
             have H' := Aside0.mk H
             clear H
             obtain ⟨_, _, _, _, _, _, _, _, _, _, _, _, _, _⟩ := blk_cells14 BK309.out
             obtain ⟨_, _, _, _, _, _, _, _, _, _, _, _, _, _⟩ := blk_frozen14 BK309.out
             go_wp2_with (first | ((with_reducible refine gate_dst (N := 22) rfl ?_); (try (refine gate_guard (by rfl) ?_; dsimp only)); refine Kd.R_lit (Kd.int .i64) _ 2 ?hg (N := 22) ?hd (xs := ([7] : List Int)) (inner := [.int .i64 7]) (ok := fun _ => True) (okp := fun _ => True) ?hr ?hp (fun _ hk => hk) trivial (Below.refl _ _) (Nat.le_refl _) (by simp) ?_; (case hd => rfl); (case hg => rfl); (case hr => first | (go_simp; done) | (go_simp; rfl)); (case hp => exact (Reps.one (show Kd.M (Kd.int .i64) _ _ _ 7 [.int .i64 7] from rfl) (Reps.none _ _))); intro v313 w52 ho53 hb hg_ hnew_; clear hg_ hnew_; (first | rw [← Ny312.out] at ho53 | (simp only [Int.reduceToNat] at ho53; rw [← Ny312.out] at ho53)); have HO314 := Aside0.mk (Kd.R_lower ho53 (below_size (HB_up HB.out))); replace BK309 := Aside0.mk (blk_below (g := gb309) (blk_up BK309.out) hb); replace HB := Aside0.mk (below_step (HB_up HB.out) hb); clear hb ho53; obtain ⟨Ao54, co54, eo54⟩ := Kd.R_slice HO314.out; subst eo54) | ((with_reducible refine gate_callee (f := 80) rfl ?_); refine goesY_ (some 23) Try.func80 #[.agg #[.string a0_0, .int .i64 a0_1, .string a0_2, .slice A0_3 l0_3.length c0_3, .int .i64 a0_4, .int .i64 a0_5, .int .i64 a0_6, .slice A0_7 l0_7.length c0_7, .int .i64 a0_8, .slice A0_9 l0_9.length c0_9, .int .i64 a0_10, .bool a0_11, .slice A0_12 l0_12.length c0_12, .int .i64 a0_13], .slice Ao54 y312.length co54] rfl ?_; (with_reducible refine (impl_Cmd_is.calls kj12 a0_0 a0_1 a0_2 _ _ l0_3 a0_4 a0_5 a0_6 _ _ l0_7 a0_8 _ _ l0_9 a0_10 a0_11 _ _ l0_12 a0_13 _ _ y312 false _ ?_ ?_ ?_ ?_ ?_ ?_ ?_ ?_ ?_ ?_ A22.out).mono ?_); exact C_up (Kd.C_below HR0_3.out HB.out); exact HC0_3.out; exact C_up (Kd.C_below HR0_7.out HB.out); exact HC0_7.out; exact C_up (Kd.C_below HR0_9.out HB.out); exact HC0_9.out; exact C_up (Kd.C_below HR0_12.out HB.out); exact HC0_12.out; exact C_up (Kd.R_reads' HO314.out).2.2; exact (Kd.R_reads' HO314.out).2.1; rintro e w55 ⟨rfl, hb⟩; refine ⟨_, rfl, ?_⟩; replace HO314 := Aside0.mk (Kd.R_below (R_up HO314.out) hb); replace BK309 := Aside0.mk (blk_below (g := gb309) (blk_up BK309.out) hb); replace HB := Aside0.mk (below_step (HB_up HB.out) hb); (try clear hb); obtain ⟨_, _, _, _, _, _, _, _, _, _, _, _, _, _⟩ := blk_cells14 BK309.out; obtain ⟨_, _, _, _, _, _, _, _, _, _, _, _, _, _⟩ := blk_frozen14 BK309.out) | ((with_reducible refine gate_callee (f := 81) rfl ?_); refine goesY_ (some 31) Try.func81 #[.agg #[.string a0_0, .int .i64 a0_1, .string a0_2, .slice A0_3 l0_3.length c0_3, .int .i64 a0_4, .int .i64 a0_5, .int .i64 a0_6, .slice A0_7 l0_7.length c0_7, .int .i64 a0_8, .slice A0_9 l0_9.length c0_9, .int .i64 a0_10, .bool a0_11, .slice A0_12 l0_12.length c0_12, .int .i64 a0_13]] rfl ?_; (with_reducible refine (impl_Cmd_hasFlags.calls kj12 a0_0 a0_1 a0_2 _ _ l0_3 a0_4 a0_5 a0_6 _ _ l0_7 a0_8 _ _ l0_9 a0_10 a0_11 _ _ l0_12 a0_13 false _ ?_ ?_ ?_ ?_ ?_ ?_ ?_ ?_ A42.out).mono ?_); exact C_up (Kd.C_below HR0_3.out HB.out); exact HC0_3.out; exact C_up (Kd.C_below HR0_7.out HB.out); exact HC0_7.out; exact C_up (Kd.C_below HR0_9.out HB.out); exact HC0_9.out; exact C_up (Kd.C_below HR0_12.out HB.out); exact HC0_12.out; rintro e w57 ⟨rfl, hb⟩; refine ⟨_, rfl, ?_⟩; replace HO314 := Aside0.mk (Kd.R_below (R_up HO314.out) hb); replace BK309 := Aside0.mk (blk_below (g := gb309) (blk_up BK309.out) hb); replace HB := Aside0.mk (below_step (HB_up HB.out) hb); (try clear hb); obtain ⟨_, _, _, _, _, _, _, _, _, _, _, _, _, _⟩ := blk_cells14 BK309.out; obtain ⟨_, _, _, _, _, _, _, _, _, _, _, _, _, _⟩ := blk_frozen14 BK309.out))
             go_meet
             case rel => exact ⟨_, ((a0_5 != 0)), vl_, H', ⟨by have := HJ1.out; have := HJ12.out; first | omega | exact Nat.le_refl _⟩, ⟨blk_up BK309.out⟩, ⟨hs_⟩⟩
           ·
            rw [if_neg c41] at H
            have c41b0 : (a0_4 == 0) = false := beq_eq_false_iff_ne.mpr c41
            have c41b1 : (a0_4 != 0) = true := bne_iff_ne.mpr c41
            have H' := Aside0.mk H
            clear H
            obtain ⟨_, _, _, _, _, _, _, _, _, _, _, _, _, _⟩ := blk_cells14 BK309.out
            obtain ⟨_, _, _, _, _, _, _, _, _, _, _, _, _, _⟩ := blk_frozen14 BK309.out
            go_wp2_with (first | ((with_reducible refine gate_dst (N := 22) rfl ?_); (try (refine gate_guard (by rfl) ?_; dsimp only)); refine Kd.R_lit (Kd.int .i64) _ 2 ?hg (N := 22) ?hd (xs := ([7] : List Int)) (inner := [.int .i64 7]) (ok := fun _ => True) (okp := fun _ => True) ?hr ?hp (fun _ hk => hk) trivial (Below.refl _ _) (Nat.le_refl _) (by simp) ?_; (case hd => rfl); (case hg => rfl); (case hr => first | (go_simp; done) | (go_simp; rfl)); (case hp => exact (Reps.one (show Kd.M (Kd.int .i64) _ _ _ 7 [.int .i64 7] from rfl) (Reps.none _ _))); intro v313 w60 ho61 hb hg_ hnew_; clear hg_ hnew_; (first | rw [← Ny312.out] at ho61 | (simp only [Int.reduceToNat] at ho61; rw [← Ny312.out] at ho61)); have HO314 := Aside0.mk (Kd.R_lower ho61 (below_size (HB_up HB.out))); replace BK309 := Aside0.mk (blk_below (g := gb309) (blk_up BK309.out) hb); replace HB := Aside0.mk (below_step (HB_up HB.out) hb); clear hb ho61; obtain ⟨Ao62, co62, eo62⟩ := Kd.R_slice HO314.out; subst eo62) | ((with_reducible refine gate_callee (f := 80) rfl ?_); refine goesY_ (some 23) Try.func80 #[.agg #[.string a0_0, .int .i64 a0_1, .string a0_2, .slice A0_3 l0_3.length c0_3, .int .i64 a0_4, .int .i64 a0_5, .int .i64 a0_6, .slice A0_7 l0_7.length c0_7, .int .i64 a0_8, .slice A0_9 l0_9.length c0_9, .int .i64 a0_10, .bool a0_11, .slice A0_12 l0_12.length c0_12, .int .i64 a0_13], .slice Ao62 y312.length co62] rfl ?_; (with_reducible refine (impl_Cmd_is.calls kj12 a0_0 a0_1 a0_2 _ _ l0_3 a0_4 a0_5 a0_6 _ _ l0_7 a0_8 _ _ l0_9 a0_10 a0_11 _ _ l0_12 a0_13 _ _ y312 false _ ?_ ?_ ?_ ?_ ?_ ?_ ?_ ?_ ?_ ?_ A22.out).mono ?_); exact C_up (Kd.C_below HR0_3.out HB.out); exact HC0_3.out; exact C_up (Kd.C_below HR0_7.out HB.out); exact HC0_7.out; exact C_up (Kd.C_below HR0_9.out HB.out); exact HC0_9.out; exact C_up (Kd.C_below HR0_12.out HB.out); exact HC0_12.out; exact C_up (Kd.R_reads' HO314.out).2.2; exact (Kd.R_reads' HO314.out).2.1; rintro e w63 ⟨rfl, hb⟩; refine ⟨_, rfl, ?_⟩; replace HO314 := Aside0.mk (Kd.R_below (R_up HO314.out) hb); replace BK309 := Aside0.mk (blk_below (g := gb309) (blk_up BK309.out) hb); replace HB := Aside0.mk (below_step (HB_up HB.out) hb); (try clear hb); obtain ⟨_, _, _, _, _, _, _, _, _, _, _, _, _, _⟩ := blk_cells14 BK309.out; obtain ⟨_, _, _, _, _, _, _, _, _, _, _, _, _, _⟩ := blk_frozen14 BK309.out))
            go_meet
            case rel => exact ⟨_, ((a0_4 != 0)), vl_, H', ⟨by have := HJ1.out; have := HJ12.out; first | omega | exact Nat.le_refl _⟩, ⟨blk_up BK309.out⟩, ⟨hs_⟩⟩
    case rest =>
     clear HC11
     obtain ⟨kq, x3_10, rfl, HA, HJ10, BK309, HB⟩ := hcut
     cases kq with
     | zero => exact absurd HA.out (by simp [impl_Cmd_isOnly.j2])
     | succ kj10 =>
       have H := HA.out
       clear HA
       simp only [impl_Cmd_isOnly.j2] at H
       as_aux_lemma =>
       by_cases c65 : x3_10 = true
       ·
        subst c65
        (try rw [if_pos rfl] at H)
        obtain rfl := Option.some.inj H
        go_wp2
        go_ret
        exact ⟨ve_, hs_⟩
       ·
        replace c65 := Bool.eq_false_iff.mpr c65
        subst c65
        (try rw [if_neg (show ¬ (false = true) by decide)] at H)
        have HC66 := Aside0.mk H
        clear H
        go_upto_region 6 with (fail)
        go_cut [38] (fun v38 wc => ∃ (kq : Nat) (x38_65 : Bool), v38 = .bool x38_65 ∧ Aside0 (impl_Cmd_isOnly.j3 kq x38_65 a0_0 a0_1 a0_2 l0_3 a0_4 a0_5 a0_6 l0_7 a0_8 l0_9 a0_10 a0_11 l0_12 a0_13 = some r) ∧ Aside0 (kq ≤ kj10) ∧ Aside0 (wc.heap[gb309]? = some (.cells #[.string a0_0, .int .i64 a0_1, .string a0_2, (.slice A0_3 l0_3.length c0_3), .int .i64 a0_4, .int .i64 a0_5, .int .i64 a0_6, (.slice A0_7 l0_7.length c0_7), .int .i64 a0_8, (.slice A0_9 l0_9.length c0_9), .int .i64 a0_10, .bool a0_11, (.slice A0_12 l0_12.length c0_12), .int .i64 a0_13] 33 (0, 0))) ∧ Aside0 (Below w.heap.size w wc))
        case first =>
         have H := HC66.out
         clear HC66
         obtain ⟨y318, hy318⟩ : ∃ y_ : List Int, y_ = (([6] : List Int)) := ⟨_, rfl⟩
         replace H : ((impl_Cmd_is.f kj10 a0_0 a0_1 a0_2 l0_3 a0_4 a0_5 a0_6 l0_7 a0_8 l0_9 a0_10 a0_11 l0_12 a0_13 y318).bind fun t321 => (if t321 = true then (impl_Cmd_isOnly.j3 kj10 false a0_0 a0_1 a0_2 l0_3 a0_4 a0_5 a0_6 l0_7 a0_8 l0_9 a0_10 a0_11 l0_12 a0_13) else (if a0_6 = 0 then (impl_Cmd_isOnly.j3 kj10 (decide ((l0_7.length : Int) > 0)) a0_0 a0_1 a0_2 l0_3 a0_4 a0_5 a0_6 l0_7 a0_8 l0_9 a0_10 a0_11 l0_12 a0_13) else (impl_Cmd_isOnly.j3 kj10 true a0_0 a0_1 a0_2 l0_3 a0_4 a0_5 a0_6 l0_7 a0_8 l0_9 a0_10 a0_11 l0_12 a0_13)))) = some r := by first | (rw [hy318]; with_reducible exact H) | (have H2_ := (Option.bind_some _ _).symm.trans H; rw [hy318]; with_reducible exact H2_) | (have H2_ := (Option.bind_some _ _).symm.trans H; with_reducible exact H2_) | with_reducible exact H | (rw [hy318]; exact H) | exact H
         have Ny318 := Aside0.mk hy318
         clear hy318
         replace H := Option.bind_eq_some_iff.mp H
         obtain ⟨t321, A670, H⟩ := H
         (try dsimp only at H)
         have A67 := Aside0.mk A670
         clear A670
         by_cases c68 : t321 = true
         ·
          subst c68
          (try rw [if_pos rfl] at H)
          have H' := Aside0.mk H
          clear H
          obtain ⟨_, _, _, _, _, _, _, _, _, _, _, _, _, _⟩ := blk_cells14 BK309.out
          obtain ⟨_, _, _, _, _, _, _, _, _, _, _, _, _, _⟩ := blk_frozen14 BK309.out
          go_wp2_with (first | ((with_reducible refine gate_dst (N := 40) rfl ?_); (try (refine gate_guard (by rfl) ?_; dsimp only)); refine Kd.R_lit (Kd.int .i64) _ 2 ?hg (N := 40) ?hd (xs := ([6] : List Int)) (inner := [.int .i64 6]) (ok := fun _ => True) (okp := fun _ => True) ?hr ?hp (fun _ hk => hk) trivial (Below.refl _ _) (Nat.le_refl _) (by simp) ?_; (case hd => rfl); (case hg => rfl); (case hr => first | (go_simp; done) | (go_simp; rfl)); (case hp => exact (Reps.one (show Kd.M (Kd.int .i64) _ _ _ 6 [.int .i64 6] from rfl) (Reps.none _ _))); intro v319 w70 ho71 hb hg_ hnew_; clear hg_ hnew_; (first | rw [← Ny318.out] at ho71 | (simp only [Int.reduceToNat] at ho71; rw [← Ny318.out] at ho71)); have HO320 := Aside0.mk (Kd.R_lower ho71 (below_size (HB_up HB.out))); replace BK309 := Aside0.mk (blk_below (g := gb309) (blk_up BK309.out) hb); replace HB := Aside0.mk (below_step (HB_up HB.out) hb); clear hb ho71; obtain ⟨Ao72, co72, eo72⟩ := Kd.R_slice HO320.out; subst eo72) | ((with_reducible refine gate_callee (f := 80) rfl ?_); refine goesY_ (some 41) Try.func80 #[.agg #[.string a0_0, .int .i64 a0_1, .string a0_2, .slice A0_3 l0_3.length c0_3, .int .i64 a0_4, .int .i64 a0_5, .int .i64 a0_6, .slice A0_7 l0_7.length c0_7, .int .i64 a0_8, .slice A0_9 l0_9.length c0_9, .int .i64 a0_10, .bool a0_11, .slice A0_12 l0_12.length c0_12, .int .i64 a0_13], .slice Ao72 y318.length co72] rfl ?_; (with_reducible refine (impl_Cmd_is.calls kj10 a0_0 a0_1 a0_2 _ _ l0_3 a0_4 a0_5 a0_6 _ _ l0_7 a0_8 _ _ l0_9 a0_10 a0_11 _ _ l0_12 a0_13 _ _ y318 true _ ?_ ?_ ?_ ?_ ?_ ?_ ?_ ?_ ?_ ?_ A67.out).mono ?_); exact C_up (Kd.C_below HR0_3.out HB.out); exact HC0_3.out; exact C_up (Kd.C_below HR0_7.out HB.out); exact HC0_7.out; exact C_up (Kd.C_below HR0_9.out HB.out); exact HC0_9.out; exact C_up (Kd.C_below HR0_12.out HB.out); exact HC0_12.out; exact C_up (Kd.R_reads' HO320.out).2.2; exact (Kd.R_reads' HO320.out).2.1; rintro e w73 ⟨rfl, hb⟩; refine ⟨_, rfl, ?_⟩; replace HO320 := Aside0.mk (Kd.R_below (R_up HO320.out) hb); replace BK309 := Aside0.mk (blk_below (g := gb309) (blk_up BK309.out) hb); replace HB := Aside0.mk (below_step (HB_up HB.out) hb); (try clear hb)))
          go_meet
          case rel => exact ⟨_, (false), vl_, H', ⟨by have := HJ1.out; have := HJ10.out; first | omega | exact Nat.le_refl _⟩, ⟨blk_up BK309.out⟩, ⟨hs_⟩⟩
         ·
          replace c68 := Bool.eq_false_iff.mpr c68
          subst c68
          (try rw [if_neg (show ¬ (false = true) by decide)] at H)
          by_cases c74 : a0_6 = 0
          ·
           rw [if_pos c74] at H
           have c74b0 : (a0_6 == 0) = true := beq_iff_eq.mpr c74
           have c74b1 : (a0_6 != 0) = false := bne_eq_false_iff_eq.mpr c74
           clear c74
           (first | rw [c74b0] | (simp only [i64_w, i32_w]; rw [c74b0]) | skip)
           have H' := Aside0.mk H
           clear H
           obtain ⟨_, _, _, _, _, _, _, _, _, _, _, _, _, _⟩ := blk_cells14 BK309.out
           obtain ⟨_, _, _, _, _, _, _, _, _, _, _, _, _, _⟩ := blk_frozen14 BK309.out
           go_wp2_with (first | ((with_reducible refine gate_dst (N := 40) rfl ?_); (try (refine gate_guard (by rfl) ?_; dsimp only)); refine Kd.R_lit (Kd.int .i64) _ 2 ?hg (N := 40) ?hd (xs := ([6] : List Int)) (inner := [.int .i64 6]) (ok := fun _ => True) (okp := fun _ => True) ?hr ?hp (fun _ hk => hk) trivial (Below.refl _ _) (Nat.le_refl _) (by simp) ?_; (case hd => rfl); (case hg => rfl); (case hr => first | (go_simp; done) | (go_simp; rfl)); (case hp => exact (Reps.one (show Kd.M (Kd.int .i64) _ _ _ 6 [.int .i64 6] from rfl) (Reps.none _ _))); intro v319 w76 ho77 hb hg_ hnew_; clear hg_ hnew_; (first | rw [← Ny318.out] at ho77 | (simp only [Int.reduceToNat] at ho77; rw [← Ny318.out] at ho77)); have HO320 := Aside0.mk (Kd.R_lower ho77 (below_size (HB_up HB.out))); replace BK309 := Aside0.mk (blk_below (g := gb309) (blk_up BK309.out) hb); replace HB := Aside0.mk (below_step (HB_up HB.out) hb); clear hb ho77; obtain ⟨Ao78, co78, eo78⟩ := Kd.R_slice HO320.out; subst eo78) | ((with_reducible refine gate_callee (f := 80) rfl ?_); refine goesY_ (some 41) Try.func80 #[.agg #[.string a0_0, .int .i64 a0_1, .string a0_2, .slice A0_3 l0_3.length c0_3, .int .i64 a0_4, .int .i64 a0_5, .int .i64 a0_6, .slice A0_7 l0_7.length c0_7, .int .i64 a0_8, .slice A0_9 l0_9.length c0_9, .int .i64 a0_10, .bool a0_11, .slice A0_12 l0_12.length c0_12, .int .i64 a0_13], .slice Ao78 y318.length co78] rfl ?_; (with_reducible refine (impl_Cmd_is.calls kj10 a0_0 a0_1 a0_2 _ _ l0_3 a0_4 a0_5 a0_6 _ _ l0_7 a0_8 _ _ l0_9 a0_10 a0_11 _ _ l0_12 a0_13 _ _ y318 false _ ?_ ?_ ?_ ?_ ?_ ?_ ?_ ?_ ?_ ?_ A67.out).mono ?_); exact C_up (Kd.C_below HR0_3.out HB.out); exact HC0_3.out; exact C_up (Kd.C_below HR0_7.out HB.out); exact HC0_7.out; exact C_up (Kd.C_below HR0_9.out HB.out); exact HC0_9.out; exact C_up (Kd.C_below HR0_12.out HB.out); exact HC0_12.out; exact C_up (Kd.R_reads' HO320.out).2.2; exact (Kd.R_reads' HO320.out).2.1; rintro e w79 ⟨rfl, hb⟩; refine ⟨_, rfl, ?_⟩; replace HO320 := Aside0.mk (Kd.R_below (R_up HO320.out) hb); replace BK309 := Aside0.mk (blk_below (g := gb309) (blk_up BK309.out) hb); replace HB := Aside0.mk (below_step (HB_up HB.out) hb); (try clear hb); obtain ⟨_, _, _, _, _, _, _, _, _, _, _, _, _, _⟩ := blk_cells14 BK309.out; obtain ⟨_, _, _, _, _, _, _, _, _, _, _, _, _, _⟩ := blk_frozen14 BK309.out))
           go_meet
           case rel => exact ⟨_, (decide ((l0_7.length : Int) > 0)), vl_, H', ⟨by have := HJ1.out; have := HJ10.out; first | omega | exact Nat.le_refl _⟩, ⟨blk_up BK309.out⟩, ⟨hs_⟩⟩
          ·
           rw [if_neg c74] at H
           have c74b0 : (a0_6 == 0) = false := beq_eq_false_iff_ne.mpr c74
           have c74b1 : (a0_6 != 0) = true := bne_iff_ne.mpr c74
           (first | rw [c74b0] | (simp only [i64_w, i32_w]; rw [c74b0]) | skip)
           have H' := Aside0.mk H
           clear H
           obtain ⟨_, _, _, _, _, _, _, _, _, _, _, _, _, _⟩ := blk_cells14 BK309.out
           obtain ⟨_, _, _, _, _, _, _, _, _, _, _, _, _, _⟩ := blk_frozen14 BK309.out
           go_wp2_with (first | ((with_reducible refine gate_dst (N := 40) rfl ?_); (try (refine gate_guard (by rfl) ?_; dsimp only)); refine Kd.R_lit (Kd.int .i64) _ 2 ?hg (N := 40) ?hd (xs := ([6] : List Int)) (inner := [.int .i64 6]) (ok := fun _ => True) (okp := fun _ => True) ?hr ?hp (fun _ hk => hk) trivial (Below.refl _ _) (Nat.le_refl _) (by simp) ?_; (case hd => rfl); (case hg => rfl); (case hr => first | (go_simp; done) | (go_simp; rfl)); (case hp => exact (Reps.one (show Kd.M (Kd.int .i64) _ _ _ 6 [.int .i64 6] from rfl) (Reps.none _ _))); intro v319 w82 ho83 hb hg_ hnew_; clear hg_ hnew_; (first | rw [← Ny318.out] at ho83 | (simp only [Int.reduceToNat] at ho83; rw [← Ny318.out] at ho83)); have HO320 := Aside0.mk (Kd.R_lower ho83 (below_size (HB_up HB.out))); replace BK309 := Aside0.mk (blk_below (g := gb309) (blk_up BK309.out) hb); replace HB := Aside0.mk (below_step (HB_up HB.out) hb); clear hb ho83; obtain ⟨Ao84, co84, eo84⟩ := Kd.R_slice HO320.out; subst eo84) | ((with_reducible refine gate_callee (f := 80) rfl ?_); refine goesY_ (some 41) Try.func80 #[.agg #[.string a0_0, .int .i64 a0_1, .string a0_2, .slice A0_3 l0_3.length c0_3, .int .i64 a0_4, .int .i64 a0_5, .int .i64 a0_6, .slice A0_7 l0_7.length c0_7, .int .i64 a0_8, .slice A0_9 l0_9.length c0_9, .int .i64 a0_10, .bool a0_11, .slice A0_12 l0_12.length c0_12, .int .i64 a0_13], .slice Ao84 y318.length co84] rfl ?_; (with_reducible refine (impl_Cmd_is.calls kj10 a0_0 a0_1 a0_2 _ _ l0_3 a0_4 a0_5 a0_6 _ _ l0_7 a0_8 _ _ l0_9 a0_10 a0_11 _ _ l0_12 a0_13 _ _ y318 false _ ?_ ?_ ?_ ?_ ?_ ?_ ?_ ?_ ?_ ?_ A67.out).mono ?_); exact C_up (Kd.C_below HR0_3.out HB.out); exact HC0_3.out; exact C_up (Kd.C_below HR0_7.out HB.out); exact HC0_7.out; exact C_up (Kd.C_below HR0_9.out HB.out); exact HC0_9.out; exact C_up (Kd.C_below HR0_12.out HB.out); exact HC0_12.out; exact C_up (Kd.R_reads' HO320.out).2.2; exact (Kd.R_reads' HO320.out).2.1; rintro e w85 ⟨rfl, hb⟩; refine ⟨_, rfl, ?_⟩; replace HO320 := Aside0.mk (Kd.R_below (R_up HO320.out) hb); replace BK309 := Aside0.mk (blk_below (g := gb309) (blk_up BK309.out) hb); replace HB := Aside0.mk (below_step (HB_up HB.out) hb); (try clear hb); obtain ⟨_, _, _, _, _, _, _, _, _, _, _, _, _, _⟩ := blk_cells14 BK309.out; obtain ⟨_, _, _, _, _, _, _, _, _, _, _, _, _, _⟩ := blk_frozen14 BK309.out))
           go_meet
           case rel => exact ⟨_, (true), vl_, H', ⟨by have := HJ1.out; have := HJ10.out; first | omega | exact Nat.le_refl _⟩, ⟨blk_up BK309.out⟩, ⟨hs_⟩⟩
        case rest =>
         clear HC66
         try clear c65
         obtain ⟨kq, x38_65, rfl, HA, HJ65, BK309, HB⟩ := hcut
         cases kq with
         | zero => exact absurd HA.out (by simp [impl_Cmd_isOnly.j3])
         | succ kj65 =>
           have H := HA.out
           clear HA
           simp only [impl_Cmd_isOnly.j3] at H
           have HC87 := Aside0.mk H
           clear H
           go_upto_if 38 with (fail)
           go_cut [38] (fun v38 wc => ∃ (kq : Nat) (x38_86 : Bool), v38 = .bool x38_86 ∧ Aside0 (impl_Cmd_isOnly.j4 kq x38_86 a0_0 a0_1 a0_2 l0_3 a0_4 a0_5 a0_6 l0_7 a0_8 l0_9 a0_10 a0_11 l0_12 a0_13 = some r) ∧ Aside0 (kq ≤ kj65) ∧ Aside0 (wc.heap[gb309]? = some (.cells #[.string a0_0, .int .i64 a0_1, .string a0_2, (.slice A0_3 l0_3.length c0_3), .int .i64 a0_4, .int .i64 a0_5, .int .i64 a0_6, (.slice A0_7 l0_7.length c0_7), .int .i64 a0_8, (.slice A0_9 l0_9.length c0_9), .int .i64 a0_10, .bool a0_11, (.slice A0_12 l0_12.length c0_12), .int .i64 a0_13] 33 (0, 0))) ∧ Aside0 (Below w.heap.size w wc))
           case first =>
            have H := HC87.out
            clear HC87
            by_cases c88 : x38_65 = true
            ·
             subst c88
             (try rw [if_pos rfl] at H)
             have H' := Aside0.mk H
             clear H
             go_wp2
             go_meet
             case rel => exact ⟨_, (true), vl_, H', ⟨by have := HJ1.out; have := HJ10.out; have := HJ65.out; first | omega | exact Nat.le_refl _⟩, ⟨blk_up BK309.out⟩, ⟨hs_⟩⟩
            ·
             replace c88 := Bool.eq_false_iff.mpr c88
             subst c88
             (try rw [if_neg (show ¬ (false = true) by decide)] at H)
             obtain ⟨y322, hy322⟩ : ∃ y_ : List Int, y_ = (([11] : List Int)) := ⟨_, rfl⟩
             replace H : ((impl_Cmd_is.f kj65 a0_0 a0_1 a0_2 l0_3 a0_4 a0_5 a0_6 l0_7 a0_8 l0_9 a0_10 a0_11 l0_12 a0_13 y322).bind fun t325 => (if t325 = true then ((impl_Cmd_hasPath.f kj65 a0_0 a0_1 a0_2 l0_3 a0_4 a0_5 a0_6 l0_7 a0_8 l0_9 a0_10 a0_11 l0_12 a0_13).bind fun t326 => (if t326 = true then (impl_Cmd_isOnly.j4 kj65 false a0_0 a0_1 a0_2 l0_3 a0_4 a0_5 a0_6 l0_7 a0_8 l0_9 a0_10 a0_11 l0_12 a0_13) else (impl_Cmd_isOnly.j4 kj65 (decide ((l0_9.length : Int) > 0)) a0_0 a0_1 a0_2 l0_3 a0_4 a0_5 a0_6 l0_7 a0_8 l0_9 a0_10 a0_11 l0_12 a0_13))) else (if a0_8 = 0 then ((impl_Cmd_hasPath.f kj65 a0_0 a0_1 a0_2 l0_3 a0_4 a0_5 a0_6 l0_7 a0_8 l0_9 a0_10 a0_11 l0_12 a0_13).bind fun t327 => (if t327 = true then (impl_Cmd_isOnly.j4 kj65 false a0_0 a0_1 a0_2 l0_3 a0_4 a0_5 a0_6 l0_7 a0_8 l0_9 a0_10 a0_11 l0_12 a0_13) else (impl_Cmd_isOnly.j4 kj65 (decide ((l0_9.length : Int) > 0)) a0_0 a0_1 a0_2 l0_3 a0_4 a0_5 a0_6 l0_7 a0_8 l0_9 a0_10 a0_11 l0_12 a0_13))) else (impl_Cmd_isOnly.j4 kj65 (a0_8 != 0) a0_0 a0_1 a0_2 l0_3 a0_4 a0_5 a0_6 l0_7 a0_8 l0_9 a0_10 a0_11 l0_12 a0_13)))) = some r := by first | (rw [hy322]; with_reducible exact H) | (have H2_ := (Option.bind_some _ _).symm.trans H; rw [hy322]; with_reducible exact H2_) | (have H2_ := (Option.bind_some _ _).symm.trans H; with_reducible exact H2_) | with_reducible exact H | (rw [hy322]; exact H) | exact H
             have Ny322 := Aside0.mk hy322
             clear hy322
             replace H := Option.bind_eq_some_iff.mp H
             obtain ⟨t325, A890, H⟩ := H
             (try dsimp only at H)
             have A89 := Aside0.mk A890
             clear A890
             by_cases c90 : t325 = true
             ·
              subst c90
              (try rw [if_pos rfl] at H)
              replace H := Option.bind_eq_some_iff.mp H
              obtain ⟨t326, A910, H⟩ := H
              (try dsimp only at H)
              have A91 := Aside0.mk A910
              clear A910
              by_cases c92 : t326 = true
              ·
               subst c92
               (try rw [if_pos rfl] at H)
               have H' := Aside0.mk H
               clear H
               obtain ⟨_, _, _, _, _, _, _, _, _, _, _, _, _, _⟩ := blk_cells14 BK309.out
               obtain ⟨_, _, _, _, _, _, _, _, _, _, _, _, _, _⟩ := blk_frozen14 BK309.out
               go_wp2_with (first | ((with_reducible refine gate_dst (N := 55) rfl ?_); (try (refine gate_guard (by rfl) ?_; dsimp only)); refine Kd.R_lit (Kd.int .i64) _ 2 ?hg (N := 55) ?hd (xs := ([11] : List Int)) (inner := [.int .i64 11]) (ok := fun _ => True) (okp := fun _ => True) ?hr ?hp (fun _ hk => hk) trivial (Below.refl _ _) (Nat.le_refl _) (by simp) ?_; (case hd => rfl); (case hg => rfl); (case hr => first | (go_simp; done) | (go_simp; rfl)); (case hp => exact (Reps.one (show Kd.M (Kd.int .i64) _ _ _ 11 [.int .i64 11] from rfl) (Reps.none _ _))); intro v323 w94 ho95 hb hg_ hnew_; clear hg_ hnew_; (first | rw [← Ny322.out] at ho95 | (simp only [Int.reduceToNat] at ho95; rw [← Ny322.out] at ho95)); have HO324 := Aside0.mk (Kd.R_lower ho95 (below_size (HB_up HB.out))); replace BK309 := Aside0.mk (blk_below (g := gb309) (blk_up BK309.out) hb); replace HB := Aside0.mk (below_step (HB_up HB.out) hb); clear hb ho95; obtain ⟨Ao96, co96, eo96⟩ := Kd.R_slice HO324.out; subst eo96) | ((with_reducible refine gate_callee (f := 80) rfl ?_); refine goesY_ (some 56) Try.func80 #[.agg #[.string a0_0, .int .i64 a0_1, .string a0_2, .slice A0_3 l0_3.length c0_3, .int .i64 a0_4, .int .i64 a0_5, .int .i64 a0_6, .slice A0_7 l0_7.length c0_7, .int .i64 a0_8, .slice A0_9 l0_9.length c0_9, .int .i64 a0_10, .bool a0_11, .slice A0_12 l0_12.length c0_12, .int .i64 a0_13], .slice Ao96 y322.length co96] rfl ?_; (with_reducible refine (impl_Cmd_is.calls kj65 a0_0 a0_1 a0_2 _ _ l0_3 a0_4 a0_5 a0_6 _ _ l0_7 a0_8 _ _ l0_9 a0_10 a0_11 _ _ l0_12 a0_13 _ _ y322 true _ ?_ ?_ ?_ ?_ ?_ ?_ ?_ ?_ ?_ ?_ A89.out).mono ?_); exact C_up (Kd.C_below HR0_3.out HB.out); exact HC0_3.out; exact C_up (Kd.C_below HR0_7.out HB.out); exact HC0_7.out; exact C_up (Kd.C_below HR0_9.out HB.out); exact HC0_9.out; exact C_up (Kd.C_below HR0_12.out HB.out); exact HC0_12.out; exact C_up (Kd.R_reads' HO324.out).2.2; exact (Kd.R_reads' HO324.out).2.1; rintro e w97 ⟨rfl, hb⟩; refine ⟨_, rfl, ?_⟩; replace HO324 := Aside0.mk (Kd.R_below (R_up HO324.out) hb); replace BK309 := Aside0.mk (blk_below (g := gb309) (blk_up BK309.out) hb); replace HB := Aside0.mk (below_step (HB_up HB.out) hb); (try clear hb); obtain ⟨_, _, _, _, _, _, _, _, _, _, _, _, _, _⟩ := blk_cells14 BK309.out; obtain ⟨_, _, _, _, _, _, _, _, _, _, _, _, _, _⟩ := blk_frozen14 BK309.out) | ((with_reducible refine gate_callee (f := 82) rfl ?_); refine goesY_ (some 64) Try.func82 #[.agg #[.string a0_0, .int .i64 a0_1, .string a0_2, .slice A0_3 l0_3.length c0_3, .int .i64 a0_4, .int .i64 a0_5, .int .i64 a0_6, .slice A0_7 l0_7.length c0_7, .int .i64 a0_8, .slice A0_9 l0_9.length c0_9, .int .i64 a0_10, .bool a0_11, .slice A0_12 l0_12.length c0_12, .int .i64 a0_13]] rfl ?_; (with_reducible refine (impl_Cmd_hasPath.calls kj65 a0_0 a0_1 a0_2 _ _ l0_3 a0_4 a0_5 a0_6 _ _ l0_7 a0_8 _ _ l0_9 a0_10 a0_11 _ _ l0_12 a0_13 true _ ?_ ?_ ?_ ?_ ?_ ?_ ?_ ?_ A91.out).mono ?_); exact C_up (Kd.C_below HR0_3.out HB.out); exact HC0_3.out; exact C_up (Kd.C_below HR0_7.out HB.out); exact HC0_7.out; exact C_up (Kd.C_below HR0_9.out HB.out); exact HC0_9.out; exact C_up (Kd.C_below HR0_12.out HB.out); exact HC0_12.out; rintro e w99 ⟨rfl, hb⟩; refine ⟨_, rfl, ?_⟩; replace HO324 := Aside0.mk (Kd.R_below (R_up HO324.out) hb); replace BK309 := Aside0.mk (blk_below (g := gb309) (blk_up BK309.out) hb); replace HB := Aside0.mk (below_step (HB_up HB.out) hb); (try clear hb)))
               go_meet
               case rel => exact ⟨_, (false), vl_, H', ⟨by have := HJ1.out; have := HJ10.out; have := HJ65.out; first | omega | exact Nat.le_refl _⟩, ⟨blk_up BK309.out⟩, ⟨hs_⟩⟩
              ·
               replace c92 := Bool.eq_false_iff.mpr c92
               subst c92
               (try rw [if_neg (show ¬ (false = true) by decide)] at H)
               have H' := Aside0.mk H
               clear H
               obtain ⟨_, _, _, _, _, _, _, _, _, _, _, _, _, _⟩ := blk_cells14 BK309.out
               obtain ⟨_, _, _, _, _, _, _, _, _, _, _, _, _, _⟩ := blk_frozen14 BK309.out
               go_wp2_with (first | ((with_reducible refine gate_dst (N := 55) rfl ?_); (try (refine gate_guard (by rfl) ?_; dsimp only)); refine Kd.R_lit (Kd.int .i64) _ 2 ?hg (N := 55) ?hd (xs := ([11] : List Int)) (inner := [.int .i64 11]) (ok := fun _ => True) (okp := fun _ => True) ?hr ?hp (fun _ hk => hk) trivial (Below.refl _ _) (Nat.le_refl _) (by simp) ?_; (case hd => rfl); (case hg => rfl); (case hr => first | (go_simp; done) | (go_simp; rfl)); (case hp => exact (Reps.one (show Kd.M (Kd.int .i64) _ _ _ 11 [.int .i64 11] from rfl) (Reps.none _ _))); intro v323 w101 ho102 hb hg_ hnew_; clear hg_ hnew_; (first | rw [← Ny322.out] at ho102 | (simp only [Int.reduceToNat] at ho102; rw [← Ny322.out] at ho102)); have HO324 := Aside0.mk (Kd.R_lower ho102 (below_size (HB_up HB.out))); replace BK309 := Aside0.mk (blk_below (g := gb309) (blk_up BK309.out) hb); replace HB := Aside0.mk (below_step (HB_up HB.out) hb); clear hb ho102; obtain ⟨Ao103, co103, eo103⟩ := Kd.R_slice HO324.out; subst eo103) | ((with_reducible refine gate_callee (f := 80) rfl ?_); refine goesY_ (some 56) Try.func80 #[.agg #[.string a0_0, .int .i64 a0_1, .string a0_2, .slice A0_3 l0_3.length c0_3, .int .i64 a0_4, .int .i64 a0_5, .int .i64 a0_6, .slice A0_7 l0_7.length c0_7, .int .i64 a0_8, .slice A0_9 l0_9.length c0_9, .int .i64 a0_10, .bool a0_11, .slice A0_12 l0_12.length c0_12, .int .i64 a0_13], .slice Ao103 y322.length co103] rfl ?_; (with_reducible refine (impl_Cmd_is.calls kj65 a0_0 a0_1 a0_2 _ _ l0_3 a0_4 a0_5 a0_6 _ _ l0_7 a0_8 _ _ l0_9 a0_10 a0_11 _ _ l0_12 a0_13 _ _ y322 true _ ?_ ?_ ?_ ?_ ?_ ?_ ?_ ?_ ?_ ?_ A89.out).mono ?_); exact C_up (Kd.C_below HR0_3.out HB.out); exact HC0_3.out; exact C_up (Kd.C_below HR0_7.out HB.out); exact HC0_7.out; exact C_up (Kd.C_below HR0_9.out HB.out); exact HC0_9.out; exact C_up (Kd.C_below HR0_12.out HB.out); exact HC0_12.out; exact C_up (Kd.R_reads' HO324.out).2.2; exact (Kd.R_reads' HO324.out).2.1; rintro e w104 ⟨rfl, hb⟩; refine ⟨_, rfl, ?_⟩; replace HO324 := Aside0.mk (Kd.R_below (R_up HO324.out) hb); replace BK309 := Aside0.mk (blk_below (g := gb309) (blk_up BK309.out) hb); replace HB := Aside0.mk (below_step (HB_up HB.out) hb); (try clear hb); obtain ⟨_, _, _, _, _, _, _, _, _, _, _, _, _, _⟩ := blk_cells14 BK309.out; obtain ⟨_, _, _, _, _, _, _, _, _, _, _, _, _, _⟩ := blk_frozen14 BK309.out) | ((with_reducible refine gate_callee (f := 82) rfl ?_); refine goesY_ (some 64) Try.func82 #[.agg #[.string a0_0, .int .i64 a0_1, .string a0_2, .slice A0_3 l0_3.length c0_3, .int .i64 a0_4, .int .i64 a0_5, .int .i64 a0_6, .slice A0_7 l0_7.length c0_7, .int .i64 a0_8, .slice A0_9 l0_9.length c0_9, .int .i64 a0_10, .bool a0_11, .slice A0_12 l0_12.length c0_12, .int .i64 a0_13]] rfl ?_; (with_reducible refine (impl_Cmd_hasPath.calls kj65 a0_0 a0_1 a0_2 _ _ l0_3 a0_4 a0_5 a0_6 _ _ l0_7 a0_8 _ _ l0_9 a0_10 a0_11 _ _ l0_12 a0_13 false _ ?_ ?_ ?_ ?_ ?_ ?_ ?_ ?_ A91.out).mono ?_); exact C_up (Kd.C_below HR0_3.out HB.out); exact HC0_3.out; exact C_up (Kd.C_below HR0_7.out HB.out); exact HC0_7.out; exact C_up (Kd.C_below HR0_9.out HB.out); exact HC0_9.out; exact C_up (Kd.C_below HR0_12.out HB.out); exact HC0_12.out; rintro e w106 ⟨rfl, hb⟩; refine ⟨_, rfl, ?_⟩; replace HO324 := Aside0.mk (Kd.R_below (R_up HO324.out) hb); replace BK309 := Aside0.mk (blk_below (g := gb309) (blk_up BK309.out) hb); replace HB := Aside0.mk (below_step (HB_up HB.out) hb); (try clear hb); obtain ⟨_, _, _, _, _, _, _, _, _, _, _, _, _, _⟩ := blk_cells14 BK309.out; obtain ⟨_, _, _, _, _, _, _, _, _, _, _, _, _, _⟩ := blk_frozen14 BK309.out))
               go_meet
               case rel => exact ⟨_, (decide ((l0_9.length : Int) > 0)), vl_, H', ⟨by have := HJ1.out; have := HJ10.out; have := HJ65.out; first | omega | exact Nat.le_refl _⟩, ⟨blk_up BK309.out⟩, ⟨hs_⟩⟩
             ·
              replace c90 := Bool.eq_false_iff.mpr c90
              subst c90
              (try rw [if_neg (show ¬ (false = true) by decide)] at H)
              by_cases c108 : a0_8 = 0
              ·
               rw [if_pos c108] at H
               have c108b0 : (a0_8 == 0) = true := beq_iff_eq.mpr c108
               have c108b1 : (a0_8 != 0) = false := bne_eq_false_iff_eq.mpr c108
               clear c108
               (first | rw [c108b0] | (simp only [i64_w, i32_w]; rw [c108b0]) | skip)
               replace H := Option.bind_eq_some_iff.mp H
               obtain ⟨t327, A1090, H⟩ := H
               (try dsimp only at H)
               have A109 := Aside0.mk A1090
               clear A1090
               by_cases c110 : t327 = true
               ·
                subst c110
                (try rw [if_pos rfl] at H)
                have H' := Aside0.mk H
                clear H
                obtain ⟨_, _, _, _, _, _, _, _, _, _, _, _, _, _⟩ := blk_cells14 BK309.out
                obtain ⟨_, _, _, _, _, _, _, _, _, _, _, _, _, _⟩ := blk_frozen14 BK309.out
                go_wp2_with (first | ((with_reducible refine gate_dst (N := 55) rfl ?_); (try (refine gate_guard (by rfl) ?_; dsimp only)); refine Kd.R_lit (Kd.int .i64) _ 2 ?hg (N := 55) ?hd (xs := ([11] : List Int)) (inner := [.int .i64 11]) (ok := fun _ => True) (okp := fun _ => True) ?hr ?hp (fun _ hk => hk) trivial (Below.refl _ _) (Nat.le_refl _) (by simp) ?_; (case hd => rfl); (case hg => rfl); (case hr => first | (go_simp; done) | (go_simp; rfl)); (case hp => exact (Reps.one (show Kd.M (Kd.int .i64) _ _ _ 11 [.int .i64 11] from rfl) (Reps.none _ _))); intro v323 w112 ho113 hb hg_ hnew_; clear hg_ hnew_; (first | rw [← Ny322.out] at ho113 | (simp only [Int.reduceToNat] at ho113; rw [← Ny322.out] at ho113)); have HO324 := Aside0.mk (Kd.R_lower ho113 (below_size (HB_up HB.out))); replace BK309 := Aside0.mk (blk_below (g := gb309) (blk_up BK309.out) hb); replace HB := Aside0.mk (below_step (HB_up HB.out) hb); clear hb ho113; obtain ⟨Ao114, co114, eo114⟩ := Kd.R_slice HO324.out; subst eo114) | ((with_reducible refine gate_callee (f := 80) rfl ?_); refine goesY_ (some 56) Try.func80 #[.agg #[.string a0_0, .int .i64 a0_1, .string a0_2, .slice A0_3 l0_3.length c0_3, .int .i64 a0_4, .int .i64 a0_5, .int .i64 a0_6, .slice A0_7 l0_7.length c0_7, .int .i64 a0_8, .slice A0_9 l0_9.length c0_9, .int .i64 a0_10, .bool a0_11, .slice A0_12 l0_12.length c0_12, .int .i64 a0_13], .slice Ao114 y322.length co114] rfl ?_; (with_reducible refine (impl_Cmd_is.calls kj65 a0_0 a0_1 a0_2 _ _ l0_3 a0_4 a0_5 a0_6 _ _ l0_7 a0_8 _ _ l0_9 a0_10 a0_11 _ _ l0_12 a0_13 _ _ y322 false _ ?_ ?_ ?_ ?_ ?_ ?_ ?_ ?_ ?_ ?_ A89.out).mono ?_); exact C_up (Kd.C_below HR0_3.out HB.out); exact HC0_3.out; exact C_up (Kd.C_below HR0_7.out HB.out); exact HC0_7.out; exact C_up (Kd.C_below HR0_9.out HB.out); exact HC0_9.out; exact C_up (Kd.C_below HR0_12.out HB.out); exact HC0_12.out; exact C_up (Kd.R_reads' HO324.out).2.2; exact (Kd.R_reads' HO324.out).2.1; rintro e w115 ⟨rfl, hb⟩; refine ⟨_, rfl, ?_⟩; replace HO324 := Aside0.mk (Kd.R_below (R_up HO324.out) hb); replace BK309 := Aside0.mk (blk_below (g := gb309) (blk_up BK309.out) hb); replace HB := Aside0.mk (below_step (HB_up HB.out) hb); (try clear hb); obtain ⟨_, _, _, _, _, _, _, _, _, _, _, _, _, _⟩ := blk_cells14 BK309.out; obtain ⟨_, _, _, _, _, _, _, _, _, _, _, _, _, _⟩ := blk_frozen14 BK309.out) | ((with_reducible refine gate_callee (f := 82) rfl ?_); refine goesY_ (some 64) Try.func82 #[.agg #[.string a0_0, .int .i64 a0_1, .string a0_2, .slice A0_3 l0_3.length c0_3, .int .i64 a0_4, .int .i64 a0_5, .int .i64 a0_6, .slice A0_7 l0_7.length c0_7, .int .i64 a0_8, .slice A0_9 l0_9.length c0_9, .int .i64 a0_10, .bool a0_11, .slice A0_12 l0_12.length c0_12, .int .i64 a0_13]] rfl ?_; (with_reducible refine (impl_Cmd_hasPath.calls kj65 a0_0 a0_1 a0_2 _ _ l0_3 a0_4 a0_5 a0_6 _ _ l0_7 a0_8 _ _ l0_9 a0_10 a0_11 _ _ l0_12 a0_13 true _ ?_ ?_ ?_ ?_ ?_ ?_ ?_ ?_ A109.out).mono ?_); exact C_up (Kd.C_below HR0_3.out HB.out); exact HC0_3.out; exact C_up (Kd.C_below HR0_7.out HB.out); exact HC0_7.out; exact C_up (Kd.C_below HR0_9.out HB.out); exact HC0_9.out; exact C_up (Kd.C_below HR0_12.out HB.out); exact HC0_12.out; rintro e w117 ⟨rfl, hb⟩; refine ⟨_, rfl, ?_⟩; replace HO324 := Aside0.mk (Kd.R_below (R_up HO324.out) hb); replace BK309 := Aside0.mk (blk_below (g := gb309) (blk_up BK309.out) hb); replace HB := Aside0.mk (below_step (HB_up HB.out) hb); (try clear hb)))
                go_meet
                case rel => exact ⟨_, (false), vl_, H', ⟨by have := HJ1.out; have := HJ10.out; have := HJ65.out; first | omega | exact Nat.le_refl _⟩, ⟨blk_up BK309.out⟩, ⟨hs_⟩⟩
               ·
                replace c110 := Bool.eq_false_iff.mpr c110
                subst c110
                (try rw [if_neg (show ¬ (false = true) by decide)] at H)
                have H' := Aside0.mk H
                clear H
                obtain ⟨_, _, _, _, _, _, _, _, _, _, _, _, _, _⟩ := blk_cells14 BK309.out
                obtain ⟨_, _, _, _, _, _, _, _, _, _, _, _, _, _⟩ := blk_frozen14 BK309.out
                go_wp2_with (first | ((with_reducible refine gate_dst (N := 55) rfl ?_); (try (refine gate_guard (by rfl) ?_; dsimp only)); refine Kd.R_lit (Kd.int .i64) _ 2 ?hg (N := 55) ?hd (xs := ([11] : List Int)) (inner := [.int .i64 11]) (ok := fun _ => True) (okp := fun _ => True) ?hr ?hp (fun _ hk => hk) trivial (Below.refl _ _) (Nat.le_refl _) (by simp) ?_; (case hd => rfl); (case hg => rfl); (case hr => first | (go_simp; done) | (go_simp; rfl)); (case hp => exact (Reps.one (show Kd.M (Kd.int .i64) _ _ _ 11 [.int .i64 11] from rfl) (Reps.none _ _))); intro v323 w119 ho120 hb hg_ hnew_; clear hg_ hnew_; (first | rw [← Ny322.out] at ho120 | (simp only [Int.reduceToNat] at ho120; rw [← Ny322.out] at ho120)); have HO324 := Aside0.mk (Kd.R_lower ho120 (below_size (HB_up HB.out))); replace BK309 := Aside0.mk (blk_below (g := gb309) (blk_up BK309.out) hb); replace HB := Aside0.mk (below_step (HB_up HB.out) hb); clear hb ho120; obtain ⟨Ao121, co121, eo121⟩ := Kd.R_slice HO324.out; subst eo121) | ((with_reducible refine gate_callee (f := 80) rfl ?_); refine goesY_ (some 56) Try.func80 #[.agg #[.string a0_0, .int .i64 a0_1, .string a0_2, .slice A0_3 l0_3.length c0_3, .int .i64 a0_4, .int .i64 a0_5, .int .i64 a0_6, .slice A0_7 l0_7.length c0_7, .int .i64 a0_8, .slice A0_9 l0_9.length c0_9, .int .i64 a0_10, .bool a0_11, .slice A0_12 l0_12.length c0_12, .int .i64 a0_13], .slice Ao121 y322.length co121] rfl ?_; (with_reducible refine (impl_Cmd_is.calls kj65 a0_0 a0_1 a0_2 _ _ l0_3 a0_4 a0_5 a0_6 _ _ l0_7 a0_8 _ _ l0_9 a0_10 a0_11 _ _ l0_12 a0_13 _ _ y322 false _ ?_ ?_ ?_ ?_ ?_ ?_ ?_ ?_ ?_ ?_ A89.out).mono ?_); exact C_up (Kd.C_below HR0_3.out HB.out); exact HC0_3.out; exact C_up (Kd.C_below HR0_7.out HB.out); exact HC0_7.out; exact C_up (Kd.C_below HR0_9.out HB.out); exact HC0_9.out; exact C_up (Kd.C_below HR0_12.out HB.out); exact HC0_12.out; exact C_up (Kd.R_reads' HO324.out).2.2; exact (Kd.R_reads' HO324.out).2.1; rintro e w122 ⟨rfl, hb⟩; refine ⟨_, rfl, ?_⟩; replace HO324 := Aside0.mk (Kd.R_below (R_up HO324.out) hb); replace BK309 := Aside0.mk (blk_below (g := gb309) (blk_up BK309.out) hb); replace HB := Aside0.mk (below_step (HB_up HB.out) hb); (try clear hb); obtain ⟨_, _, _, _, _, _, _, _, _, _, _, _, _, _⟩ := blk_cells14 BK309.out; obtain ⟨_, _, _, _, _, _, _, _, _, _, _, _, _, _⟩ := blk_frozen14 BK309.out) | ((with_reducible refine gate_callee (f := 82) rfl ?_); refine goesY_ (some 64) Try.func82 #[.agg #[.string a0_0, .int .i64 a0_1, .string a0_2, .slice A0_3 l0_3.length c0_3, .int .i64 a0_4, .int .i64 a0_5, .int .i64 a0_6, .slice A0_7 l0_7.length c0_7, .int .i64 a0_8, .slice A0_9 l0_9.length c0_9, .int .i64 a0_10, .bool a0_11, .slice A0_12 l0_12.length c0_12, .int .i64 a0_13]] rfl ?_; (with_reducible refine (impl_Cmd_hasPath.calls kj65 a0_0 a0_1 a0_2 _ _ l0_3 a0_4 a0_5 a0_6 _ _ l0_7 a0_8 _ _ l0_9 a0_10 a0_11 _ _ l0_12 a0_13 false _ ?_ ?_ ?_ ?_ ?_ ?_ ?_ ?_ A109.out).mono ?_); exact C_up (Kd.C_below HR0_3.out HB.out); exact HC0_3.out; exact C_up (Kd.C_below HR0_7.out HB.out); exact HC0_7.out; exact C_up (Kd.C_below HR0_9.out HB.out); exact HC0_9.out; exact C_up (Kd.C_below HR0_12.out HB.out); exact HC0_12.out; rintro e w124 ⟨rfl, hb⟩; refine ⟨_, rfl, ?_⟩; replace HO324 := Aside0.mk (Kd.R_below (R_up HO324.out) hb); replace BK309 := Aside0.mk (blk_below (g := gb309) (blk_up BK309.out) hb); replace HB := Aside0.mk (below_step (HB_up HB.out) hb); (try clear hb); obtain ⟨_, _, _, _, _, _, _, _, _, _, _, _, _, _⟩ := blk_cells14 BK309.out; obtain ⟨_, _, _, _, _, _, _, _, _, _, _, _, _, _⟩ := blk_frozen14 BK309.out))
                go_meet
                case rel => exact ⟨_, (decide ((l0_9.length : Int) > 0)), vl_, H', ⟨by have := HJ1.out; have := HJ10.out; have := HJ65.out; first | omega | exact Nat.le_refl _⟩, ⟨blk_up BK309.out⟩, ⟨hs_⟩⟩
              ·
               rw [if_neg c108] at H
               have c108b0 : (a0_8 == 0) = false := beq_eq_false_iff_ne.mpr c108
               have c108b1 : (a0_8 != 0) = true := bne_iff_ne.mpr c108
               (first | rw [c108b0] | (simp only [i64_w, i32_w]; rw [c108b0]) | skip)
               have H' := Aside0.mk H
               clear H
               obtain ⟨_, _, _, _, _, _, _, _, _, _, _, _, _, _⟩ := blk_cells14 BK309.out
               obtain ⟨_, _, _, _, _, _, _, _, _, _, _, _, _, _⟩ := blk_frozen14 BK309.out
               go_wp2_with (first | ((with_reducible refine gate_dst (N := 55) rfl ?_); (try (refine gate_guard (by rfl) ?_; dsimp only)); refine Kd.R_lit (Kd.int .i64) _ 2 ?hg (N := 55) ?hd (xs := ([11] : List Int)) (inner := [.int .i64 11]) (ok := fun _ => True) (okp := fun _ => True) ?hr ?hp (fun _ hk => hk) trivial (Below.refl _ _) (Nat.le_refl _) (by simp) ?_; (case hd => rfl); (case hg => rfl); (case hr => first | (go_simp; done) | (go_simp; rfl)); (case hp => exact (Reps.one (show Kd.M (Kd.int .i64) _ _ _ 11 [.int .i64 11] from rfl) (Reps.none _ _))); intro v323 w127 ho128 hb hg_ hnew_; clear hg_ hnew_; (first | rw [← Ny322.out] at ho128 | (simp only [Int.reduceToNat] at ho128; rw [← Ny322.out] at ho128)); have HO324 := Aside0.mk (Kd.R_lower ho128 (below_size (HB_up HB.out))); replace BK309 := Aside0.mk (blk_below (g := gb309) (blk_up BK309.out) hb); replace HB := Aside0.mk (below_step (HB_up HB.out) hb); clear hb ho128; obtain ⟨Ao129, co129, eo129⟩ := Kd.R_slice HO324.out; subst eo129) | ((with_reducible refine gate_callee (f := 80) rfl ?_); refine goesY_ (some 56) Try.func80 #[.agg #[.string a0_0, .int .i64 a0_1, .string a0_2, .slice A0_3 l0_3.length c0_3, .int .i64 a0_4, .int .i64 a0_5, .int .i64 a0_6, .slice A0_7 l0_7.length c0_7, .int .i64 a0_8, .slice A0_9 l0_9.length c0_9, .int .i64 a0_10, .bool a0_11, .slice A0_12 l0_12.length c0_12, .int .i64 a0_13], .slice Ao129 y322.length co129] rfl ?_; (with_reducible refine (impl_Cmd_is.calls kj65 a0_0 a0_1 a0_2 _ _ l0_3 a0_4 a0_5 a0_6 _ _ l0_7 a0_8 _ _ l0_9 a0_10 a0_11 _ _ l0_12 a0_13 _ _ y322 false _ ?_ ?_ ?_ ?_ ?_ ?_ ?_ ?_ ?_ ?_ A89.out).mono ?_); exact C_up (Kd.C_below HR0_3.out HB.out); exact HC0_3.out; exact C_up (Kd.C_below HR0_7.out HB.out); exact HC0_7.out; exact C_up (Kd.C_below HR0_9.out HB.out); exact HC0_9.out; exact C_up (Kd.C_below HR0_12.out HB.out); exact HC0_12.out; exact C_up (Kd.R_reads' HO324.out).2.2; exact (Kd.R_reads' HO324.out).2.1; rintro e w130 ⟨rfl, hb⟩; refine ⟨_, rfl, ?_⟩; replace HO324 := Aside0.mk (Kd.R_below (R_up HO324.out) hb); replace BK309 := Aside0.mk (blk_below (g := gb309) (blk_up BK309.out) hb); replace HB := Aside0.mk (below_step (HB_up HB.out) hb); (try clear hb); obtain ⟨_, _, _, _, _, _, _, _, _, _, _, _, _, _⟩ := blk_cells14 BK309.out; obtain ⟨_, _, _, _, _, _, _, _, _, _, _, _, _, _⟩ := blk_frozen14 BK309.out))
               go_meet
               case rel => exact ⟨_, ((a0_8 != 0)), vl_, H', ⟨by have := HJ1.out; have := HJ10.out; have := HJ65.out; first | omega | exact Nat.le_refl _⟩, ⟨blk_up BK309.out⟩, ⟨hs_⟩⟩
           case rest =>
            clear HC87
            obtain ⟨kq, x38_86, rfl, HA, HJ86, BK309, HB⟩ := hcut
            cases kq with
            | zero => exact absurd HA.out (by simp [impl_Cmd_isOnly.j4])
            | succ kj86 =>
              have H := HA.out
              clear HA
              simp only [impl_Cmd_isOnly.j4] at H
              as_aux_lemma =>
              by_cases c132 : x38_86 = true
              ·
               subst c132
               (try rw [if_pos rfl] at H)
               obtain rfl := Option.some.inj H
               go_wp2
               go_ret
               exact ⟨ve_, hs_⟩
              ·
               replace c132 := Bool.eq_false_iff.mpr c132
               subst c132
               (try rw [if_neg (show ¬ (false = true) by decide)] at H)
               have HC133 := Aside0.mk H
               clear H
               go_upto_region 10 with (fail)
               go_cut [72] (fun v72 wc => ∃ (kq : Nat) (x72_132 : Bool), v72 = .bool x72_132 ∧ Aside0 (impl_Cmd_isOnly.j5 kq x72_132 a0_0 a0_1 a0_2 l0_3 a0_4 a0_5 a0_6 l0_7 a0_8 l0_9 a0_10 a0_11 l0_12 a0_13 = some r) ∧ Aside0 (kq ≤ kj86) ∧ Aside0 (wc.heap[gb309]? = some (.cells #[.string a0_0, .int .i64 a0_1, .string a0_2, (.slice A0_3 l0_3.length c0_3), .int .i64 a0_4, .int .i64 a0_5, .int .i64 a0_6, (.slice A0_7 l0_7.length c0_7), .int .i64 a0_8, (.slice A0_9 l0_9.length c0_9), .int .i64 a0_10, .bool a0_11, (.slice A0_12 l0_12.length c0_12), .int .i64 a0_13] 33 (0, 0))) ∧ Aside0 (Below w.heap.size w wc))
               case first =>
                have H := HC133.out
                clear HC133
                obtain ⟨y328, hy328⟩ : ∃ y_ : List Int, y_ = (([13] : List Int)) := ⟨_, rfl⟩
                replace H : ((impl_Cmd_is.f kj86 a0_0 a0_1 a0_2 l0_3 a0_4 a0_5 a0_6 l0_7 a0_8 l0_9 a0_10 a0_11 l0_12 a0_13 y328).bind fun t331 => (if t331 = true then (impl_Cmd_isOnly.j5 kj86 false a0_0 a0_1 a0_2 l0_3 a0_4 a0_5 a0_6 l0_7 a0_8 l0_9 a0_10 a0_11 l0_12 a0_13) else (if a0_10 = 0 then (impl_Cmd_isOnly.j5 kj86 a0_11 a0_0 a0_1 a0_2 l0_3 a0_4 a0_5 a0_6 l0_7 a0_8 l0_9 a0_10 a0_11 l0_12 a0_13) else (impl_Cmd_isOnly.j5 kj86 true a0_0 a0_1 a0_2 l0_3 a0_4 a0_5 a0_6 l0_7 a0_8 l0_9 a0_10 a0_11 l0_12 a0_13)))) = some r := by first | (rw [hy328]; with_reducible exact H) | (have H2_ := (Option.bind_some _ _).symm.trans H; rw [hy328]; with_reducible exact H2_) | (have H2_ := (Option.bind_some _ _).symm.trans H; with_reducible exact H2_) | with_reducible exact H | (rw [hy328]; exact H) | exact H
                have Ny328 := Aside0.mk hy328
                clear hy328
                replace H := Option.bind_eq_some_iff.mp H
                obtain ⟨t331, A1340, H⟩ := H
                (try dsimp only at H)
                have A134 := Aside0.mk A1340
                clear A1340
                by_cases c135 : t331 = true
                ·
                 subst c135
                 (try rw [if_pos rfl] at H)
                 have H' := Aside0.mk H
                 clear H
                 obtain ⟨_, _, _, _, _, _, _, _, _, _, _, _, _, _⟩ := blk_cells14 BK309.out
                 obtain ⟨_, _, _, _, _, _, _, _, _, _, _, _, _, _⟩ := blk_frozen14 BK309.out
                 go_wp2_with (first | ((with_reducible refine gate_dst (N := 74) rfl ?_); (try (refine gate_guard (by rfl) ?_; dsimp only)); refine Kd.R_lit (Kd.int .i64) _ 2 ?hg (N := 74) ?hd (xs := ([13] : List Int)) (inner := [.int .i64 13]) (ok := fun _ => True) (okp := fun _ => True) ?hr ?hp (fun _ hk => hk) trivial (Below.refl _ _) (Nat.le_refl _) (by simp) ?_; (case hd => rfl); (case hg => rfl); (case hr => first | (go_simp; done) | (go_simp; rfl)); (case hp => exact (Reps.one (show Kd.M (Kd.int .i64) _ _ _ 13 [.int .i64 13] from rfl) (Reps.none _ _))); intro v329 w137 ho138 hb hg_ hnew_; clear hg_ hnew_; (first | rw [← Ny328.out] at ho138 | (simp only [Int.reduceToNat] at ho138; rw [← Ny328.out] at ho138)); have HO330 := Aside0.mk (Kd.R_lower ho138 (below_size (HB_up HB.out))); replace BK309 := Aside0.mk (blk_below (g := gb309) (blk_up BK309.out) hb); replace HB := Aside0.mk (below_step (HB_up HB.out) hb); clear hb ho138; obtain ⟨Ao139, co139, eo139⟩ := Kd.R_slice HO330.out; subst eo139) | ((with_reducible refine gate_callee (f := 80) rfl ?_); refine goesY_ (some 75) Try.func80 #[.agg #[.string a0_0, .int .i64 a0_1, .string a0_2, .slice A0_3 l0_3.length c0_3, .int .i64 a0_4, .int .i64 a0_5, .int .i64 a0_6, .slice A0_7 l0_7.length c0_7, .int .i64 a0_8, .slice A0_9 l0_9.length c0_9, .int .i64 a0_10, .bool a0_11, .slice A0_12 l0_12.length c0_12, .int .i64 a0_13], .slice Ao139 y328.length co139] rfl ?_; (with_reducible refine (impl_Cmd_is.calls kj86 a0_0 a0_1 a0_2 _ _ l0_3 a0_4 a0_5 a0_6 _ _ l0_7 a0_8 _ _ l0_9 a0_10 a0_11 _ _ l0_12 a0_13 _ _ y328 true _ ?_ ?_ ?_ ?_ ?_ ?_ ?_ ?_ ?_ ?_ A134.out).mono ?_); exact C_up (Kd.C_below HR0_3.out HB.out); exact HC0_3.out; exact C_up (Kd.C_below HR0_7.out HB.out); exact HC0_7.out; exact C_up (Kd.C_below HR0_9.out HB.out); exact HC0_9.out; exact C_up (Kd.C_below HR0_12.out HB.out); exact HC0_12.out; exact C_up (Kd.R_reads' HO330.out).2.2; exact (Kd.R_reads' HO330.out).2.1; rintro e w140 ⟨rfl, hb⟩; refine ⟨_, rfl, ?_⟩; replace HO330 := Aside0.mk (Kd.R_below (R_up HO330.out) hb); replace BK309 := Aside0.mk (blk_below (g := gb309) (blk_up BK309.out) hb); replace HB := Aside0.mk (below_step (HB_up HB.out) hb); (try clear hb)))
                 go_meet
                 case rel => exact ⟨_, (false), vl_, H', ⟨by have := HJ1.out; have := HJ10.out; have := HJ65.out; have := HJ86.out; first | omega | exact Nat.le_refl _⟩, ⟨blk_up BK309.out⟩, ⟨hs_⟩⟩
                ·
                 replace c135 := Bool.eq_false_iff.mpr c135
                 subst c135
                 (try rw [if_neg (show ¬ (false = true) by decide)] at H)
                 by_cases c141 : a0_10 = 0
                 ·
                  rw [if_pos c141] at H
                  have c141b0 : (a0_10 == 0) = true := beq_iff_eq.mpr c141
                  have c141b1 : (a0_10 != 0) = false := bne_eq_false_iff_eq.mpr c141
                  clear c141
                  (first | rw [c141b0] | (simp only [i64_w, i32_w]; rw [c141b0]) | skip)
                  have H' := Aside0.mk H
                  clear H
                  obtain ⟨_, _, _, _, _, _, _, _, _, _, _, _, _, _⟩ := blk_cells14 BK309.out
                  obtain ⟨_, _, _, _, _, _, _, _, _, _, _, _, _, _⟩ := blk_frozen14 BK309.out
                  go_wp2_with (first | ((with_reducible refine gate_dst (N := 74) rfl ?_); (try (refine gate_guard (by rfl) ?_; dsimp only)); refine Kd.R_lit (Kd.int .i64) _ 2 ?hg (N := 74) ?hd (xs := ([13] : List Int)) (inner := [.int .i64 13]) (ok := fun _ => True) (okp := fun _ => True) ?hr ?hp (fun _ hk => hk) trivial (Below.refl _ _) (Nat.le_refl _) (by simp) ?_; (case hd => rfl); (case hg => rfl); (case hr => first | (go_simp; done) | (go_simp; rfl)); (case hp => exact (Reps.one (show Kd.M (Kd.int .i64) _ _ _ 13 [.int .i64 13] from rfl) (Reps.none _ _))); intro v329 w143 ho144 hb hg_ hnew_; clear hg_ hnew_; (first | rw [← Ny328.out] at ho144 | (simp only [Int.reduceToNat] at ho144; rw [← Ny328.out] at ho144)); have HO330 := Aside0.mk (Kd.R_lower ho144 (below_size (HB_up HB.out))); replace BK309 := Aside0.mk (blk_below (g := gb309) (blk_up BK309.out) hb); replace HB := Aside0.mk (below_step (HB_up HB.out) hb); clear hb ho144; obtain ⟨Ao145, co145, eo145⟩ := Kd.R_slice HO330.out; subst eo145) | ((with_reducible refine gate_callee (f := 80) rfl ?_); refine goesY_ (some 75) Try.func80 #[.agg #[.string a0_0, .int .i64 a0_1, .string a0_2, .slice A0_3 l0_3.length c0_3, .int .i64 a0_4, .int .i64 a0_5, .int .i64 a0_6, .slice A0_7 l0_7.length c0_7, .int .i64 a0_8, .slice A0_9 l0_9.length c0_9, .int .i64 a0_10, .bool a0_11, .slice A0_12 l0_12.length c0_12, .int .i64 a0_13], .slice Ao145 y328.length co145] rfl ?_; (with_reducible refine (impl_Cmd_is.calls kj86 a0_0 a0_1 a0_2 _ _ l0_3 a0_4 a0_5 a0_6 _ _ l0_7 a0_8 _ _ l0_9 a0_10 a0_11 _ _ l0_12 a0_13 _ _ y328 false _ ?_ ?_ ?_ ?_ ?_ ?_ ?_ ?_ ?_ ?_ A134.out).mono ?_); exact C_up (Kd.C_below HR0_3.out HB.out); exact HC0_3.out; exact C_up (Kd.C_below HR0_7.out HB.out); exact HC0_7.out; exact C_up (Kd.C_below HR0_9.out HB.out); exact HC0_9.out; exact C_up (Kd.C_below HR0_12.out HB.out); exact HC0_12.out; exact C_up (Kd.R_reads' HO330.out).2.2; exact (Kd.R_reads' HO330.out).2.1; rintro e w146 ⟨rfl, hb⟩; refine ⟨_, rfl, ?_⟩; replace HO330 := Aside0.mk (Kd.R_below (R_up HO330.out) hb); replace BK309 := Aside0.mk (blk_below (g := gb309) (blk_up BK309.out) hb); replace HB := Aside0.mk (below_step (HB_up HB.out) hb); (try clear hb); obtain ⟨_, _, _, _, _, _, _, _, _, _, _, _, _, _⟩ := blk_cells14 BK309.out; obtain ⟨_, _, _, _, _, _, _, _, _, _, _, _, _, _⟩ := blk_frozen14 BK309.out))
                  go_meet
                  case rel => exact ⟨_, (a0_11), vl_, H', ⟨by have := HJ1.out; have := HJ10.out; have := HJ65.out; have := HJ86.out; first | omega | exact Nat.le_refl _⟩, ⟨blk_up BK309.out⟩, ⟨hs_⟩⟩
                 ·
                  rw [if_neg c141] at H
                  have c141b0 : (a0_10 == 0) = false := beq_eq_false_iff_ne.mpr c141
                  have c141b1 : (a0_10 != 0) = true := bne_iff_ne.mpr c141
                  (first | rw [c141b0] | (simp only [i64_w, i32_w]; rw [c141b0]) | skip)
                  have H' := Aside0.mk H
                  clear H
                  obtain ⟨_, _, _, _, _, _, _, _, _, _, _, _, _, _⟩ := blk_cells14 BK309.out
                  obtain ⟨_, _, _, _, _, _, _, _, _, _, _, _, _, _⟩ := blk_frozen14 BK309.out
                  go_wp2_with (first | ((with_reducible refine gate_dst (N := 74) rfl ?_); (try (refine gate_guard (by rfl) ?_; dsimp only)); refine Kd.R_lit (Kd.int .i64) _ 2 ?hg (N := 74) ?hd (xs := ([13] : List Int)) (inner := [.int .i64 13]) (ok := fun _ => True) (okp := fun _ => True) ?hr ?hp (fun _ hk => hk) trivial (Below.refl _ _) (Nat.le_refl _) (by simp) ?_; (case hd => rfl); (case hg => rfl); (case hr => first | (go_simp; done) | (go_simp; rfl)); (case hp => exact (Reps.one (show Kd.M (Kd.int .i64) _ _ _ 13 [.int .i64 13] from rfl) (Reps.none _ _))); intro v329 w149 ho150 hb hg_ hnew_; clear hg_ hnew_; (first | rw [← Ny328.out] at ho150 | (simp only [Int.reduceToNat] at ho150; rw [← Ny328.out] at ho150)); have HO330 := Aside0.mk (Kd.R_lower ho150 (below_size (HB_up HB.out))); replace BK309 := Aside0.mk (blk_below (g := gb309) (blk_up BK309.out) hb); replace HB := Aside0.mk (below_step (HB_up HB.out) hb); clear hb ho150; obtain ⟨Ao151, co151, eo151⟩ := Kd.R_slice HO330.out; subst eo151) | ((with_reducible refine gate_callee (f := 80) rfl ?_); refine goesY_ (some 75) Try.func80 #[.agg #[.string a0_0, .int .i64 a0_1, .string a0_2, .slice A0_3 l0_3.length c0_3, .int .i64 a0_4, .int .i64 a0_5, .int .i64 a0_6, .slice A0_7 l0_7.length c0_7, .int .i64 a0_8, .slice A0_9 l0_9.length c0_9, .int .i64 a0_10, .bool a0_11, .slice A0_12 l0_12.length c0_12, .int .i64 a0_13], .slice Ao151 y328.length co151] rfl ?_; (with_reducible refine (impl_Cmd_is.calls kj86 a0_0 a0_1 a0_2 _ _ l0_3 a0_4 a0_5 a0_6 _ _ l0_7 a0_8 _ _ l0_9 a0_10 a0_11 _ _ l0_12 a0_13 _ _ y328 false _ ?_ ?_ ?_ ?_ ?_ ?_ ?_ ?_ ?_ ?_ A134.out).mono ?_); exact C_up (Kd.C_below HR0_3.out HB.out); exact HC0_3.out; exact C_up (Kd.C_below HR0_7.out HB.out); exact HC0_7.out; exact C_up (Kd.C_below HR0_9.out HB.out); exact HC0_9.out; exact C_up (Kd.C_below HR0_12.out HB.out); exact HC0_12.out; exact C_up (Kd.R_reads' HO330.out).2.2; exact (Kd.R_reads' HO330.out).2.1; rintro e w152 ⟨rfl, hb⟩; refine ⟨_, rfl, ?_⟩; replace HO330 := Aside0.mk (Kd.R_below (R_up HO330.out) hb); replace BK309 := Aside0.mk (blk_below (g := gb309) (blk_up BK309.out) hb); replace HB := Aside0.mk (below_step (HB_up HB.out) hb); (try clear hb); obtain ⟨_, _, _, _, _, _, _, _, _, _, _, _, _, _⟩ := blk_cells14 BK309.out; obtain ⟨_, _, _, _, _, _, _, _, _, _, _, _, _, _⟩ := blk_frozen14 BK309.out))
                  go_meet
                  case rel => exact ⟨_, (true), vl_, H', ⟨by have := HJ1.out; have := HJ10.out; have := HJ65.out; have := HJ86.out; first | omega | exact Nat.le_refl _⟩, ⟨blk_up BK309.out⟩, ⟨hs_⟩⟩
               case rest =>
                clear HC133
                try clear c132
                obtain ⟨kq, x72_132, rfl, HA, HJ132, BK309, HB⟩ := hcut
                cases kq with
                | zero => exact absurd HA.out (by simp [impl_Cmd_isOnly.j5])
                | succ kj132 =>
                  have H := HA.out
                  clear HA
                  simp only [impl_Cmd_isOnly.j5] at H
                  by_cases c154 : x72_132 = true
                  ·
                   subst c154
                   (try rw [if_pos rfl] at H)
                   obtain rfl := Option.some.inj H
                   go_wp2
                   go_ret
                   exact ⟨ve_, hs_⟩
                  ·
                   replace c154 := Bool.eq_false_iff.mpr c154
                   subst c154
                   (try rw [if_neg (show ¬ (false = true) by decide)] at H)
                   have HC155 := Aside0.mk H
                   clear H
                   go_upto_region 11 with (fail)
                   go_cut [72] (fun v72 wc => ∃ (kq : Nat) (x72_154 : Bool), v72 = .bool x72_154 ∧ Aside0 (impl_Cmd_isOnly.j6 kq x72_154 a0_0 a0_1 a0_2 l0_3 a0_4 a0_5 a0_6 l0_7 a0_8 l0_9 a0_10 a0_11 l0_12 a0_13 = some r) ∧ Aside0 (kq ≤ kj132) ∧ Aside0 (wc.heap[gb309]? = some (.cells #[.string a0_0, .int .i64 a0_1, .string a0_2, (.slice A0_3 l0_3.length c0_3), .int .i64 a0_4, .int .i64 a0_5, .int .i64 a0_6, (.slice A0_7 l0_7.length c0_7), .int .i64 a0_8, (.slice A0_9 l0_9.length c0_9), .int .i64 a0_10, .bool a0_11, (.slice A0_12 l0_12.length c0_12), .int .i64 a0_13] 33 (0, 0))) ∧ Aside0 (Below w.heap.size w wc))
                   case first =>
                    have H := HC155.out
                    clear HC155
                    replace H := Option.bind_eq_some_iff.mp H
                    obtain ⟨t332, A1560, H⟩ := H
                    (try dsimp only at H)
                    have A156 := Aside0.mk A1560
                    clear A1560
                    by_cases c157 : t332 = true
                    ·
                     subst c157
                     (try rw [if_pos rfl] at H)
                     have H' := Aside0.mk H
                     clear H
                     obtain ⟨_, _, _, _, _, _, _, _, _, _, _, _, _, _⟩ := blk_cells14 BK309.out
                     obtain ⟨_, _, _, _, _, _, _, _, _, _, _, _, _, _⟩ := blk_frozen14 BK309.out
                     go_wp2_with (first | ((with_reducible refine gate_callee (f := 44) rfl ?_); refine goesY_ (some 87) Try.func44 #[.agg #[.string a0_0, .int .i64 a0_1, .string a0_2, .slice A0_3 l0_3.length c0_3, .int .i64 a0_4, .int .i64 a0_5, .int .i64 a0_6, .slice A0_7 l0_7.length c0_7, .int .i64 a0_8, .slice A0_9 l0_9.length c0_9, .int .i64 a0_10, .bool a0_11, .slice A0_12 l0_12.length c0_12, .int .i64 a0_13]] rfl ?_; (with_reducible refine (impl_Cmd_hasTerms.calls kj132 a0_0 a0_1 a0_2 _ _ l0_3 a0_4 a0_5 a0_6 _ _ l0_7 a0_8 _ _ l0_9 a0_10 a0_11 _ _ l0_12 a0_13 true _ ?_ ?_ ?_ ?_ ?_ ?_ ?_ ?_ A156.out).mono ?_); exact C_up (Kd.C_below HR0_3.out HB.out); exact HC0_3.out; exact C_up (Kd.C_below HR0_7.out HB.out); exact HC0_7.out; exact C_up (Kd.C_below HR0_9.out HB.out); exact HC0_9.out; exact C_up (Kd.C_below HR0_12.out HB.out); exact HC0_12.out; rintro e w159 ⟨rfl, hb⟩; refine ⟨_, rfl, ?_⟩; replace BK309 := Aside0.mk (blk_below (g := gb309) (blk_up BK309.out) hb); replace HB := Aside0.mk (below_step (HB_up HB.out) hb); (try clear hb)))
                     go_meet
                     case rel => exact ⟨_, (false), vl_, H', ⟨by have := HJ1.out; have := HJ10.out; have := HJ65.out; have := HJ86.out; have := HJ132.out; first | omega | exact Nat.le_refl _⟩, ⟨blk_up BK309.out⟩, ⟨hs_⟩⟩
                    ·
                     replace c157 := Bool.eq_false_iff.mpr c157
                     subst c157
                     (try rw [if_neg (show ¬ (false = true) by decide)] at H)
                     have H' := Aside0.mk H
                     clear H
                     obtain ⟨_, _, _, _, _, _, _, _, _, _, _, _, _, _⟩ := blk_cells14 BK309.out
                     obtain ⟨_, _, _, _, _, _, _, _, _, _, _, _, _, _⟩ := blk_frozen14 BK309.out
                     go_wp2_with (first | ((with_reducible refine gate_callee (f := 44) rfl ?_); refine goesY_ (some 87) Try.func44 #[.agg #[.string a0_0, .int .i64 a0_1, .string a0_2, .slice A0_3 l0_3.length c0_3, .int .i64 a0_4, .int .i64 a0_5, .int .i64 a0_6, .slice A0_7 l0_7.length c0_7, .int .i64 a0_8, .slice A0_9 l0_9.length c0_9, .int .i64 a0_10, .bool a0_11, .slice A0_12 l0_12.length c0_12, .int .i64 a0_13]] rfl ?_; (with_reducible refine (impl_Cmd_hasTerms.calls kj132 a0_0 a0_1 a0_2 _ _ l0_3 a0_4 a0_5 a0_6 _ _ l0_7 a0_8 _ _ l0_9 a0_10 a0_11 _ _ l0_12 a0_13 false _ ?_ ?_ ?_ ?_ ?_ ?_ ?_ ?_ A156.out).mono ?_); exact C_up (Kd.C_below HR0_3.out HB.out); exact HC0_3.out; exact C_up (Kd.C_below HR0_7.out HB.out); exact HC0_7.out; exact C_up (Kd.C_below HR0_9.out HB.out); exact HC0_9.out; exact C_up (Kd.C_below HR0_12.out HB.out); exact HC0_12.out; rintro e w161 ⟨rfl, hb⟩; refine ⟨_, rfl, ?_⟩; replace BK309 := Aside0.mk (blk_below (g := gb309) (blk_up BK309.out) hb); replace HB := Aside0.mk (below_step (HB_up HB.out) hb); (try clear hb); obtain ⟨_, _, _, _, _, _, _, _, _, _, _, _, _, _⟩ := blk_cells14 BK309.out; obtain ⟨_, _, _, _, _, _, _, _, _, _, _, _, _, _⟩ := blk_frozen14 BK309.out))
                     go_meet
                     case rel => exact ⟨_, (decide ((l0_12.length : Int) > 0)), vl_, H', ⟨by have := HJ1.out; have := HJ10.out; have := HJ65.out; have := HJ86.out; have := HJ132.out; first | omega | exact Nat.le_refl _⟩, ⟨blk_up BK309.out⟩, ⟨hs_⟩⟩
                   case rest =>
                    clear HC155
                    try clear c154
                    obtain ⟨kq, x72_154, rfl, HA, HJ154, BK309, HB⟩ := hcut
                    cases kq with
                    | zero => exact absurd HA.out (by simp [impl_Cmd_isOnly.j6])
                    | succ kj154 =>
                      have H := HA.out
                      clear HA
                      simp only [impl_Cmd_isOnly.j6] at H
                      as_aux_lemma =>
                      by_cases c163 : x72_154 = true
                      ·
                       subst c163
                       (try rw [if_pos rfl] at H)
                       obtain rfl := Option.some.inj H
                       go_wp2
                       go_ret
                       exact ⟨ve_, hs_⟩
                      ·
                       replace c163 := Bool.eq_false_iff.mpr c163
                       subst c163
                       (try rw [if_neg (show ¬ (false = true) by decide)] at H)
                       obtain ⟨y333, hy333⟩ : ∃ y_ : List Int, y_ = (([14] : List Int)) := ⟨_, rfl⟩
                       replace H : ((impl_Cmd_is.f kj154 a0_0 a0_1 a0_2 l0_3 a0_4 a0_5 a0_6 l0_7 a0_8 l0_9 a0_10 a0_11 l0_12 a0_13 y333).bind fun t336 => (if t336 = true then (some true) else (if a0_13 = 0 then (some true) else (some false)))) = some r := by first | (rw [hy333]; with_reducible exact H) | (have H2_ := (Option.bind_some _ _).symm.trans H; rw [hy333]; with_reducible exact H2_) | (have H2_ := (Option.bind_some _ _).symm.trans H; with_reducible exact H2_) | with_reducible exact H | (rw [hy333]; exact H) | exact H
                       have Ny333 := Aside0.mk hy333
                       clear hy333
                       replace H := Option.bind_eq_some_iff.mp H
                       obtain ⟨t336, A1640, H⟩ := H
                       (try dsimp only at H)
                       have A164 := Aside0.mk A1640
                       clear A1640
                       by_cases c165 : t336 = true
                       ·
                        subst c165
                        (try rw [if_pos rfl] at H)
                        obtain rfl := Option.some.inj H
                        obtain ⟨_, _, _, _, _, _, _, _, _, _, _, _, _, _⟩ := blk_cells14 BK309.out
                        obtain ⟨_, _, _, _, _, _, _, _, _, _, _, _, _, _⟩ := blk_frozen14 BK309.out
                        go_wp2_with (first | ((with_reducible refine gate_dst (N := 96) rfl ?_); (try (refine gate_guard (by rfl) ?_; dsimp only)); refine Kd.R_lit (Kd.int .i64) _ 2 ?hg (N := 96) ?hd (xs := ([14] : List Int)) (inner := [.int .i64 14]) (ok := fun _ => True) (okp := fun _ => True) ?hr ?hp (fun _ hk => hk) trivial (Below.refl _ _) (Nat.le_refl _) (by simp) ?_; (case hd => rfl); (case hg => rfl); (case hr => first | (go_simp; done) | (go_simp; rfl)); (case hp => exact (Reps.one (show Kd.M (Kd.int .i64) _ _ _ 14 [.int .i64 14] from rfl) (Reps.none _ _))); intro v334 w167 ho168 hb hg_ hnew_; clear hg_ hnew_; (first | rw [← Ny333.out] at ho168 | (simp only [Int.reduceToNat] at ho168; rw [← Ny333.out] at ho168)); have HO335 := Aside0.mk (Kd.R_lower ho168 (below_size (HB_up HB.out))); replace BK309 := Aside0.mk (blk_below (g := gb309) (blk_up BK309.out) hb); replace HB := Aside0.mk (below_step (HB_up HB.out) hb); clear hb ho168; obtain ⟨Ao169, co169, eo169⟩ := Kd.R_slice HO335.out; subst eo169) | ((with_reducible refine gate_callee (f := 80) rfl ?_); refine goesY_ (some 97) Try.func80 #[.agg #[.string a0_0, .int .i64 a0_1, .string a0_2, .slice A0_3 l0_3.length c0_3, .int .i64 a0_4, .int .i64 a0_5, .int .i64 a0_6, .slice A0_7 l0_7.length c0_7, .int .i64 a0_8, .slice A0_9 l0_9.length c0_9, .int .i64 a0_10, .bool a0_11, .slice A0_12 l0_12.length c0_12, .int .i64 a0_13], .slice Ao169 y333.length co169] rfl ?_; (with_reducible refine (impl_Cmd_is.calls kj154 a0_0 a0_1 a0_2 _ _ l0_3 a0_4 a0_5 a0_6 _ _ l0_7 a0_8 _ _ l0_9 a0_10 a0_11 _ _ l0_12 a0_13 _ _ y333 true _ ?_ ?_ ?_ ?_ ?_ ?_ ?_ ?_ ?_ ?_ A164.out).mono ?_); exact C_up (Kd.C_below HR0_3.out HB.out); exact HC0_3.out; exact C_up (Kd.C_below HR0_7.out HB.out); exact HC0_7.out; exact C_up (Kd.C_below HR0_9.out HB.out); exact HC0_9.out; exact C_up (Kd.C_below HR0_12.out HB.out); exact HC0_12.out; exact C_up (Kd.R_reads' HO335.out).2.2; exact (Kd.R_reads' HO335.out).2.1; rintro e w170 ⟨rfl, hb⟩; refine ⟨_, rfl, ?_⟩; replace HO335 := Aside0.mk (Kd.R_below (R_up HO335.out) hb); replace BK309 := Aside0.mk (blk_below (g := gb309) (blk_up BK309.out) hb); replace HB := Aside0.mk (below_step (HB_up HB.out) hb); (try clear hb)))
                        go_ret
                        exact ⟨ve_, hs_⟩
                       ·
                        replace c165 := Bool.eq_false_iff.mpr c165
                        subst c165
                        (try rw [if_neg (show ¬ (false = true) by decide)] at H)
                        by_cases c171 : a0_13 = 0
                        ·
                         rw [if_pos c171] at H
                         have c171b0 : (a0_13 == 0) = true := beq_iff_eq.mpr c171
                         have c171b1 : (a0_13 != 0) = false := bne_eq_false_iff_eq.mpr c171
                         clear c171
                         obtain rfl := Option.some.inj H
                         obtain ⟨_, _, _, _, _, _, _, _, _, _, _, _, _, _⟩ := blk_cells14 BK309.out
                         obtain ⟨_, _, _, _, _, _, _, _, _, _, _, _, _, _⟩ := blk_frozen14 BK309.out
                         go_wp2_with (first | ((with_reducible refine gate_dst (N := 96) rfl ?_); (try (refine gate_guard (by rfl) ?_; dsimp only)); refine Kd.R_lit (Kd.int .i64) _ 2 ?hg (N := 96) ?hd (xs := ([14] : List Int)) (inner := [.int .i64 14]) (ok := fun _ => True) (okp := fun _ => True) ?hr ?hp (fun _ hk => hk) trivial (Below.refl _ _) (Nat.le_refl _) (by simp) ?_; (case hd => rfl); (case hg => rfl); (case hr => first | (go_simp; done) | (go_simp; rfl)); (case hp => exact (Reps.one (show Kd.M (Kd.int .i64) _ _ _ 14 [.int .i64 14] from rfl) (Reps.none _ _))); intro v334 w173 ho174 hb hg_ hnew_; clear hg_ hnew_; (first | rw [← Ny333.out] at ho174 | (simp only [Int.reduceToNat] at ho174; rw [← Ny333.out] at ho174)); have HO335 := Aside0.mk (Kd.R_lower ho174 (below_size (HB_up HB.out))); replace BK309 := Aside0.mk (blk_below (g := gb309) (blk_up BK309.out) hb); replace HB := Aside0.mk (below_step (HB_up HB.out) hb); clear hb ho174; obtain ⟨Ao175, co175, eo175⟩ := Kd.R_slice HO335.out; subst eo175) | ((with_reducible refine gate_callee (f := 80) rfl ?_); refine goesY_ (some 97) Try.func80 #[.agg #[.string a0_0, .int .i64 a0_1, .string a0_2, .slice A0_3 l0_3.length c0_3, .int .i64 a0_4, .int .i64 a0_5, .int .i64 a0_6, .slice A0_7 l0_7.length c0_7, .int .i64 a0_8, .slice A0_9 l0_9.length c0_9, .int .i64 a0_10, .bool a0_11, .slice A0_12 l0_12.length c0_12, .int .i64 a0_13], .slice Ao175 y333.length co175] rfl ?_; (with_reducible refine (impl_Cmd_is.calls kj154 a0_0 a0_1 a0_2 _ _ l0_3 a0_4 a0_5 a0_6 _ _ l0_7 a0_8 _ _ l0_9 a0_10 a0_11 _ _ l0_12 a0_13 _ _ y333 false _ ?_ ?_ ?_ ?_ ?_ ?_ ?_ ?_ ?_ ?_ A164.out).mono ?_); exact C_up (Kd.C_below HR0_3.out HB.out); exact HC0_3.out; exact C_up (Kd.C_below HR0_7.out HB.out); exact HC0_7.out; exact C_up (Kd.C_below HR0_9.out HB.out); exact HC0_9.out; exact C_up (Kd.C_below HR0_12.out HB.out); exact HC0_12.out; exact C_up (Kd.R_reads' HO335.out).2.2; exact (Kd.R_reads' HO335.out).2.1; rintro e w176 ⟨rfl, hb⟩; refine ⟨_, rfl, ?_⟩; replace HO335 := Aside0.mk (Kd.R_below (R_up HO335.out) hb); replace BK309 := Aside0.mk (blk_below (g := gb309) (blk_up BK309.out) hb); replace HB := Aside0.mk (below_step (HB_up HB.out) hb); (try clear hb); obtain ⟨_, _, _, _, _, _, _, _, _, _, _, _, _, _⟩ := blk_cells14 BK309.out; obtain ⟨_, _, _, _, _, _, _, _, _, _, _, _, _, _⟩ := blk_frozen14 BK309.out))
                         go_ret
                         exact ⟨ve_, hs_⟩
                        ·
                         rw [if_neg c171] at H
                         have c171b0 : (a0_13 == 0) = false := beq_eq_false_iff_ne.mpr c171
                         have c171b1 : (a0_13 != 0) = true := bne_iff_ne.mpr c171
                         obtain rfl := Option.some.inj H
                         obtain ⟨_, _, _, _, _, _, _, _, _, _, _, _, _, _⟩ := blk_cells14 BK309.out
                         obtain ⟨_, _, _, _, _, _, _, _, _, _, _, _, _, _⟩ := blk_frozen14 BK309.out
                         go_wp2_with (first | ((with_reducible refine gate_dst (N := 96) rfl ?_); (try (refine gate_guard (by rfl) ?_; dsimp only)); refine Kd.R_lit (Kd.int .i64) _ 2 ?hg (N := 96) ?hd (xs := ([14] : List Int)) (inner := [.int .i64 14]) (ok := fun _ => True) (okp := fun _ => True) ?hr ?hp (fun _ hk => hk) trivial (Below.refl _ _) (Nat.le_refl _) (by simp) ?_; (case hd => rfl); (case hg => rfl); (case hr => first | (go_simp; done) | (go_simp; rfl)); (case hp => exact (Reps.one (show Kd.M (Kd.int .i64) _ _ _ 14 [.int .i64 14] from rfl) (Reps.none _ _))); intro v334 w179 ho180 hb hg_ hnew_; clear hg_ hnew_; (first | rw [← Ny333.out] at ho180 | (simp only [Int.reduceToNat] at ho180; rw [← Ny333.out] at ho180)); have HO335 := Aside0.mk (Kd.R_lower ho180 (below_size (HB_up HB.out))); replace BK309 := Aside0.mk (blk_below (g := gb309) (blk_up BK309.out) hb); replace HB := Aside0.mk (below_step (HB_up HB.out) hb); clear hb ho180; obtain ⟨Ao181, co181, eo181⟩ := Kd.R_slice HO335.out; subst eo181) | ((with_reducible refine gate_callee (f := 80) rfl ?_); refine goesY_ (some 97) Try.func80 #[.agg #[.string a0_0, .int .i64 a0_1, .string a0_2, .slice A0_3 l0_3.length c0_3, .int .i64 a0_4, .int .i64 a0_5, .int .i64 a0_6, .slice A0_7 l0_7.length c0_7, .int .i64 a0_8, .slice A0_9 l0_9.length c0_9, .int .i64 a0_10, .bool a0_11, .slice A0_12 l0_12.length c0_12, .int .i64 a0_13], .slice Ao181 y333.length co181] rfl ?_; (with_reducible refine (impl_Cmd_is.calls kj154 a0_0 a0_1 a0_2 _ _ l0_3 a0_4 a0_5 a0_6 _ _ l0_7 a0_8 _ _ l0_9 a0_10 a0_11 _ _ l0_12 a0_13 _ _ y333 false _ ?_ ?_ ?_ ?_ ?_ ?_ ?_ ?_ ?_ ?_ A164.out).mono ?_); exact C_up (Kd.C_below HR0_3.out HB.out); exact HC0_3.out; exact C_up (Kd.C_below HR0_7.out HB.out); exact HC0_7.out; exact C_up (Kd.C_below HR0_9.out HB.out); exact HC0_9.out; exact C_up (Kd.C_below HR0_12.out HB.out); exact HC0_12.out; exact C_up (Kd.R_reads' HO335.out).2.2; exact (Kd.R_reads' HO335.out).2.1; rintro e w182 ⟨rfl, hb⟩; refine ⟨_, rfl, ?_⟩; replace HO335 := Aside0.mk (Kd.R_below (R_up HO335.out) hb); replace BK309 := Aside0.mk (blk_below (g := gb309) (blk_up BK309.out) hb); replace HB := Aside0.mk (below_step (HB_up HB.out) hb); (try clear hb); obtain ⟨_, _, _, _, _, _, _, _, _, _, _, _, _, _⟩ := blk_cells14 BK309.out; obtain ⟨_, _, _, _, _, _, _, _, _, _, _, _, _, _⟩ := blk_frozen14 BK309.out))
                         go_ret
                         exact ⟨ve_, hs_⟩

/-! ### impl_isSmallWord: function 83 -/
def impl_isSmallWord.l0 : Nat → ByteArray → Int → Int → Int → Option (Bool)
 | 0, _, _, _, _ => none
 | k + 1, x0, x1, x7, x8 => if x8 < x7 then (if 0 ≤ x8 then (if x8 < (x0.size : Int) then (if (bt x0 x8) < 97 then (some false) else (if (bt x0 x8) > 122 then (some false) else (impl_isSmallWord.l0 k x0 x1 x7 (wrap64 (x8 + 1))))) else (none)) else (none)) else (if (x0.size : Int) ≥ 1 then (some (decide ((x0.size : Int) ≤ x1))) else (some false))
def impl_isSmallWord.f (k : Nat) (a0 : ByteArray) (a1 : Int) : Option (Bool) := impl_isSmallWord.l0 k a0 a1 (a0.size : Int) 0
set_option maxHeartbeats 8000000 in
set_option maxRecDepth 100000 in
theorem impl_isSmallWord.calls (k : Nat) (a0 : ByteArray) (a1 : Int) (r : Bool) (w : World) (h : impl_isSmallWord.f k a0 a1 = some r) :
 Calls Try.prog 83 #[.string a0, .int .i64 a1] w fun e w' => e = .returned (.bool r) ∧ Drawn0 w w' := by
 have H : (impl_isSmallWord.l0 k a0 a1 (a0.size : Int) 0) = some r := h
 clear h
 have H' := Aside0.mk H
 clear H
 go_enter Try.func83, Try.ntmps83
 go_wp2
 go_loopg [8] k (fun kq v8 w' => ∃ (x8_1 : Int), v8 = .int .i64 x8_1 ∧ Aside0 (impl_isSmallWord.l0 kq a0 a1 (a0.size : Int) x8_1 = some r) ∧ Aside0 (kq ≤ k) ∧ Drawn0 w w')
 case atStart => exact ⟨(0), vl_, H', ⟨Nat.le_refl _⟩, dr_⟩
 case round =>
  clear H'
  obtain ⟨x8_1, rfl, HA, HK1, ⟨m1, rfl⟩⟩ := hrel
  cases gk with
  | zero => exact absurd HA.out (by simp [impl_isSmallWord.l0])
  | succ k1 =>
    have H := HA.out
    clear HA
    simp only [impl_isSmallWord.l0] at H
    by_cases c3 : x8_1 < (a0.size : Int)
    ·
     rw [if_pos c3] at H
     have c3b0 : decide (x8_1 < (a0.size : Int)) = true := decide_eq_true c3
     clear c3
     by_cases c4 : 0 ≤ x8_1
     case neg => rw [if_neg c4] at H; exact absurd H (by simp)
     rw [if_pos c4] at H
     have c4b0 : decide (0 ≤ x8_1) = true := decide_eq_true c4
     clear c4
     by_cases c5 : x8_1 < (a0.size : Int)
     case neg => rw [if_neg c5] at H; exact absurd H (by simp)
     rw [if_pos c5] at H
     have c5b0 : decide (x8_1 < (a0.size : Int)) = true := decide_eq_true c5
     clear c5
     have p6 : 0 ≤ (x8_1 : Int) := od_
     have q6 : x8_1 < (a0.size : Int) := od_
     have hx6 := bt_at a0 x8_1
     replace p6 := eq_true p6
     replace q6 := eq_true q6
     by_cases c7 : (bt a0 x8_1) < 97
     ·
      rw [if_pos c7] at H
      have c7b0 : decide ((bt a0 x8_1) < 97) = true := decide_eq_true c7
      clear c7
      obtain rfl := Option.some.inj H
      go_wp2
      go_ret
      exact ⟨vl_, dr_⟩
     ·
      rw [if_neg c7] at H
      have c7b0 : decide ((bt a0 x8_1) < 97) = false := decide_eq_false c7
      clear c7
      have p8 : 0 ≤ (x8_1 : Int) := od_
      have q8 : x8_1 < (a0.size : Int) := od_
      have hx8 := bt_at a0 x8_1
      replace p8 := eq_true p8
      replace q8 := eq_true q8
      by_cases c9 : (bt a0 x8_1) > 122
      ·
       rw [if_pos c9] at H
       have c9b0 : decide (122 < (bt a0 x8_1)) = true := decide_eq_true c9
       clear c9
       obtain rfl := Option.some.inj H
       go_wp2
       go_ret
       exact ⟨vl_, dr_⟩
      ·
       rw [if_neg c9] at H
       have c9b0 : decide (122 < (bt a0 x8_1)) = false := decide_eq_false c9
       clear c9
       have H' := Aside0.mk H
       clear H
       go_wp2
       go_roundg k1
       case measure => have := HK1.out; omega
       case rel => exact ⟨(wrap64 (x8_1 + 1)), vl_, H', ⟨by have := HK1.out; omega⟩, dr_⟩
    ·
     rw [if_neg c3] at H
     have c3b0 : decide (x8_1 < (a0.size : Int)) = false := decide_eq_false c3
     clear c3
     by_cases c10 : (a0.size : Int) ≥ 1
     ·
      rw [if_pos c10] at H
      have c10b0 : decide (1 ≤ (a0.size : Int)) = true := decide_eq_true c10
      have c10b1 : decide (1 ≤ a0.size) = true := decide_eq_true (by omega)
      clear c10
      obtain rfl := Option.some.inj H
      go_wp2
      go_ret
      exact ⟨vl_, dr_⟩
     ·
      rw [if_neg c10] at H
      have c10b0 : decide (1 ≤ (a0.size : Int)) = false := decide_eq_false c10
      have c10b1 : decide (1 ≤ a0.size) = false := decide_eq_false (by omega)
      clear c10
      obtain rfl := Option.some.inj H
      go_wp2
      go_ret
      exact ⟨vl_, dr_⟩

/-! ### impl_isName: function 40 -/
def impl_isName.f (k : Nat) (a0 : ByteArray) : Option (Bool) := (impl_isSmallWord.f k a0 8).bind fun t337 => (some t337)
set_option maxHeartbeats 8000000 in
set_option maxRecDepth 100000 in
theorem impl_isName.calls (k : Nat) (a0 : ByteArray) (r : Bool) (w : World) (h : impl_isName.f k a0 = some r) :
 Calls Try.prog 40 #[.string a0] w fun e w' => e = .returned (.bool r) ∧ Drawn0 w w' := by
 have H : ((impl_isSmallWord.f k a0 8).bind fun t337 => (some t337)) = some r := h
 clear h
 replace H := Option.bind_eq_some_iff.mp H
 obtain ⟨t337, A20, H⟩ := H
 replace H : (some t337) = some r := H
 have A2 := Aside0.mk A20
 clear A20
 obtain rfl := Option.some.inj H
 go_enter Try.func40, Try.ntmps40
 go_wp2_with (first | ((with_reducible refine gate_callee (f := 83) rfl ?_); refine goesY_ (some 4) Try.func83 #[.string a0, .int .i64 8] rfl ?_; (with_reducible refine (impl_isSmallWord.calls k a0 8 t337 _ A2.out).mono ?_); rintro e w' ⟨rfl, ⟨nd, rfl⟩⟩; refine ⟨_, rfl, ?_⟩))
 go_ret
 exact ⟨vl_, dr_⟩

/-! ### impl_Range: function 84 -/
def impl_Range.f (l0 : List (S100)) : Option (Int) := some (l0.length : Int)
set_option maxHeartbeats 8000000 in
set_option maxRecDepth 100000 in
theorem impl_Range.calls (A0 : Option Addr) (c0 : Nat) (l0 : List (S100)) (r : Int) (w : World) (hr0 : Kd.C k100 w A0 l0.length l0) (hc0 : l0.length ≤ c0) (h : impl_Range.f l0 = some r) :
 Calls Try.prog 84 #[.slice A0 l0.length c0] w fun e w' => e = .returned (.int .i64 r) ∧ Drawn0 w w' := by
 have HR0 := Aside0.mk hr0
 have HC0 := Aside0.mk hc0
 clear hr0 hc0
 have H : (some (l0.length : Int)) = some r := h
 clear h
 obtain rfl := Option.some.inj H
 go_enter Try.func84, Try.ntmps84
 go_wp2
 go_ret
 exact ⟨vl_, dr_⟩

end Go.Proofs.Ytnehephjliankaa.PFnExactCmdFault

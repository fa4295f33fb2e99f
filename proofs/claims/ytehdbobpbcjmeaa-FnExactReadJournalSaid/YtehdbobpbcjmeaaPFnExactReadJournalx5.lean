/- Functions of the program as Lean functions, each with the proof that its call comes to what that function says (texts written by a program of this session). Conditions: those that stand in each theorem. -/
import Derived.Test.YtehdbobpbcjmeaaPFnExactReadJournalx0
import Derived.Test.YtehdbobpbcjmeaaPFnExactReadJournalx2
import Derived.Test.YtehdbobpbcjmeaaPFnExactReadJournalx3
import Derived.Test.YtehdbobpbcjmeaaPFnExactReadJournalx4
namespace Go.Proofs.Ytehdbobpbcjmeaa.PFnExactReadJournal
open Go.RowKit Go.Proofs.YtehdbobpbcjmeaaW.PrintWords Go.Proofs.YtehdbobpbcjmeaaW.PrintLast Go.Proofs.YtehdbobpbcjmeaaW.PrintMore
attribute [local go_sem] max2_int min2_int max_two min_two max_three min_three max_four min_four   -- for this text's walks alone
set_option linter.unusedVariables false
set_option linter.unusedSimpArgs false

/-! ### spec_ReadOp: function 17 -/
def spec_ReadOp.j0 : Nat → List Int → Int → Bool → Option (Int × Int × Int × ByteArray × ByteArray × List Int × Int × Int × Int × List Int)
 | 0, _, _, _ => none
 | k + 1, x0, x3, x26 => if x26 = true then (some (5, 0, 0, (⟨#[]⟩ : ByteArray), (⟨#[]⟩ : ByteArray), ([] : List Int), 0, 0, 0, ([] : List Int))) else (if 0 ≤ x3 then (if x3 ≤ (x0.length : Int) then ((spec_l9Read.f k (x0.take (x3 : Int).toNat)).bind fun bt283 => ((spec_l8Fault.f k [(⟨bt283.1, bt283.2.1, bt283.2.2.1, bt283.2.2.2.1, bt283.2.2.2.2.1, bt283.2.2.2.2.2.1, bt283.2.2.2.2.2.2.1, bt283.2.2.2.2.2.2.2⟩ : S37)]).bind fun t296 => (if t296 = 0 then ((spec_l9Pack.f k [(⟨bt283.1, bt283.2.1, bt283.2.2.1, bt283.2.2.2.1, bt283.2.2.2.2.1, bt283.2.2.2.2.2.1, bt283.2.2.2.2.2.2.1, bt283.2.2.2.2.2.2.2⟩ : S37)]).bind fun t297 => (if (strOfNums t297).toList = (strOfNums (x0.take (x3 : Int).toNat)).toList then (some (0, x3, bt283.1, bt283.2.1, bt283.2.2.1, bt283.2.2.2.1, bt283.2.2.2.2.1, bt283.2.2.2.2.2.1, bt283.2.2.2.2.2.2.1, bt283.2.2.2.2.2.2.2)) else (some (5, 0, 0, (⟨#[]⟩ : ByteArray), (⟨#[]⟩ : ByteArray), ([] : List Int), 0, 0, 0, ([] : List Int))))) else (some (5, 0, 0, (⟨#[]⟩ : ByteArray), (⟨#[]⟩ : ByteArray), ([] : List Int), 0, 0, 0, ([] : List Int)))))) else (none)) else (none))
def spec_ReadOp.f (k : Nat) (l0 : List Int) : Option (Int × Int × Int × ByteArray × ByteArray × List Int × Int × Int × Int × List Int) := if (l0.length : Int) < 2 then (some (5, 0, 0, (⟨#[]⟩ : ByteArray), (⟨#[]⟩ : ByteArray), ([] : List Int), 0, 0, 0, ([] : List Int))) else (if 0 < (l0.length : Int) then (if 1 < (l0.length : Int) then (if (wrap64 ((wrap64 ((wrap64 (rd l0 0)) * 256)) + (wrap64 (rd l0 1)))) < 2 then (spec_ReadOp.j0 k l0 (wrap64 ((wrap64 ((wrap64 (rd l0 0)) * 256)) + (wrap64 (rd l0 1)))) true) else (spec_ReadOp.j0 k l0 (wrap64 ((wrap64 ((wrap64 (rd l0 0)) * 256)) + (wrap64 (rd l0 1)))) (decide ((wrap64 ((wrap64 ((wrap64 (rd l0 0)) * 256)) + (wrap64 (rd l0 1)))) > (l0.length : Int))))) else (none)) else (none))
def spec_ReadOp.T3 : Bool × List (List Nat × List Nat) := (true, [([], []), ([0], [0]), ([1], [1]), ([2], [2]), ([3], [3]), ([], []), ([5], [5]), ([6], [6]), ([7], [7]), ([4, 8], [4, 8]), ([9, 0, 1, 2, 3, 4, 5, 6, 7, 8, 9], [9])])
def spec_ReadOp.B3 : List Nat := [0, 1, 3, 7, 15, 0, 32, 96, 224, 511, 1023]
theorem spec_ReadOp.tab3 : rtab .any (opsOf Try.f17 3) = spec_ReadOp.T3 := by kernel_rfl
theorem spec_ReadOp.bits3 : waitsOk spec_ReadOp.T3.2 spec_ReadOp.B3 = true := by kernel_rfl
def spec_ReadOp.T7 : Bool × List (List Nat × List Nat) := (true, [([], []), ([0], [0]), ([1, 0], [1]), ([2, 2], [2]), ([3, 2], [2, 3]), ([2], [2]), ([2], [2]), ([5, 6, 2], [2, 5, 6]), ([7, 2], [2, 7]), ([4, 8, 2], [2, 4, 8]), ([2, 9], [2, 9])])
def spec_ReadOp.B7 : List Nat := [0, 1, 3, 7, 15, 7, 7, 103, 231, 511, 1023]
theorem spec_ReadOp.tab7 : rtab .any (opsOf Try.f17 7) = spec_ReadOp.T7 := by kernel_rfl
theorem spec_ReadOp.bits7 : waitsOk spec_ReadOp.T7.2 spec_ReadOp.B7 = true := by kernel_rfl
set_option maxHeartbeats 8000000 in
set_option maxRecDepth 100000 in
theorem spec_ReadOp.calls (k : Nat) (A0 : Option Addr) (c0 : Nat) (l0 : List Int) (r1 : Int) (r2 : Int) (r3 : Int) (r4 : ByteArray) (r5 : ByteArray) (r6 : List Int) (r7 : Int) (r8 : Int) (r9 : Int) (r10 : List Int) (w : World) (hr0 : Kd.C (Kd.int .u8) w A0 l0.length l0) (hc0 : l0.length ≤ c0) (h : spec_ReadOp.f k l0 = some (r1, r2, r3, r4, r5, r6, r7, r8, r9, r10)) :
 Calls Try.prog 17 #[.slice A0 l0.length c0] w fun e w' => ∃ v5_ v9_ : Value, e = .returned (.agg #[.int .i64 r1, .int .i64 r2, .int .i64 r3, .string r4, .string r5, v5_, .int .i64 r7, .int .i64 r8, .int .i64 r9, v9_]) ∧ Kd.R (Kd.int .i64) 2 w' w.heap.size (fun _ => True) v5_ r6 ∧ Kd.R (Kd.int .u8) 5 w' w.heap.size (fun _ => True) v9_ r10 ∧ Below w.heap.size w w' := by
 have hu39 := Try.underlying39
 have hu37 := Try.underlying37
 have HR0 := Aside0.mk hr0
 have HC0 := Aside0.mk hc0
 clear hr0 hc0
 have HB := Aside0.mk (Below.refl w.heap.size w)
 have H : (if (l0.length : Int) < 2 then (some (5, 0, 0, (⟨#[]⟩ : ByteArray), (⟨#[]⟩ : ByteArray), ([] : List Int), 0, 0, 0, ([] : List Int))) else (if 0 < (l0.length : Int) then (if 1 < (l0.length : Int) then (if (wrap64 ((wrap64 ((wrap64 (rd l0 0)) * 256)) + (wrap64 (rd l0 1)))) < 2 then (spec_ReadOp.j0 k l0 (wrap64 ((wrap64 ((wrap64 (rd l0 0)) * 256)) + (wrap64 (rd l0 1)))) true) else (spec_ReadOp.j0 k l0 (wrap64 ((wrap64 ((wrap64 (rd l0 0)) * 256)) + (wrap64 (rd l0 1)))) (decide ((wrap64 ((wrap64 ((wrap64 (rd l0 0)) * 256)) + (wrap64 (rd l0 1)))) > (l0.length : Int))))) else (none)) else (none))) = some (r1, r2, r3, r4, r5, r6, r7, r8, r9, r10) := h
 clear h
 go_enter Try.func17, Try.ntmps17
 by_cases c2 : (l0.length : Int) < 2
 ·
  rw [if_pos c2] at H
  have c2b0 : decide ((l0.length : Int) < 2) = true := decide_eq_true c2
  have c2b1 : decide (l0.length < 2) = true := decide_eq_true (by omega)
  clear c2
  simp only [Option.some.injEq, Prod.mk.injEq] at H
  obtain ⟨rfl, rfl, rfl, rfl, rfl, rfl, rfl, rfl, rfl, rfl⟩ := H
  (try simp only [c2b0, c2b1])
  go_wp2_with (first | ((with_reducible refine gate_dst (N := 2) rfl ?_); (try (refine gate_guard (by rfl) ?_; dsimp only)); refine box_event ?hg (N := 2) ?hd (cs := #[.int .i64 0, .int .i64 0, .int .i64 0, .string (⟨#[]⟩ : ByteArray), .string (⟨#[]⟩ : ByteArray), .slice none 0 0, .int .i64 0, .int .i64 0, .int .i64 0, .slice none 0 0]) (t := 39) ?hr ?_; (case hd => rfl); (case hg => rfl); (case hr => first | (go_simp; done) | (go_simp; rfl)); intro gb279 hg w3 hbox hb; have n0_ := Aside0.mk (below_step (hb_) hb); have n1_ := Aside0.mk (hbox); have n2_ := Aside0.mk ((by rw [hg]; exact (below_size (hb_)) : w.heap.size ≤ gb279)); have n3_ := Aside0.mk ((by rw [hg]; exact (below_size (hb_)) : w.heap.size ≤ gb279)); clear HB; have HB := n0_; have BK279 := n1_; have GW279 := n2_; have GE279 := n3_; clear n0_ n1_ n2_ n3_; clear hb hbox hg; have hcz4_0 : w3.cell? ⟨gb279, 0, none⟩ = some (.int .i64 0) := (blk_cell BK279.out 0).trans rfl; have hcz4_1 : w3.cell? ⟨gb279, 1, none⟩ = some (.int .i64 0) := (blk_cell BK279.out 1).trans rfl; have hcz4_2 : w3.cell? ⟨gb279, 2, none⟩ = some (.int .i64 0) := (blk_cell BK279.out 2).trans rfl; have hcz4_3 : w3.cell? ⟨gb279, 3, none⟩ = some (.string (⟨#[]⟩ : ByteArray)) := (blk_cell BK279.out 3).trans rfl; have hcz4_4 : w3.cell? ⟨gb279, 4, none⟩ = some (.string (⟨#[]⟩ : ByteArray)) := (blk_cell BK279.out 4).trans rfl; have hcz4_5 : w3.cell? ⟨gb279, 5, none⟩ = some (.slice none 0 0) := (blk_cell BK279.out 5).trans rfl; have hcz4_6 : w3.cell? ⟨gb279, 6, none⟩ = some (.int .i64 0) := (blk_cell BK279.out 6).trans rfl; have hcz4_7 : w3.cell? ⟨gb279, 7, none⟩ = some (.int .i64 0) := (blk_cell BK279.out 7).trans rfl; have hcz4_8 : w3.cell? ⟨gb279, 8, none⟩ = some (.int .i64 0) := (blk_cell BK279.out 8).trans rfl; have hcz4_9 : w3.cell? ⟨gb279, 9, none⟩ = some (.slice none 0 0) := (blk_cell BK279.out 9).trans rfl; have hfz4_0 := blk_frozen BK279.out 0; have hfz4_1 := blk_frozen BK279.out 1; have hfz4_2 := blk_frozen BK279.out 2; have hfz4_3 := blk_frozen BK279.out 3; have hfz4_4 := blk_frozen BK279.out 4; have hfz4_5 := blk_frozen BK279.out 5; have hfz4_6 := blk_frozen BK279.out 6; have hfz4_7 := blk_frozen BK279.out 7; have hfz4_8 := blk_frozen BK279.out 8; have hfz4_9 := blk_frozen BK279.out 9))
  refine bodyPost_ret (results_cell_row rfl _ _ gb279 39 #[.int .i64 5, .int .i64 0, .int .i64 0, .string (⟨#[]⟩ : ByteArray), .string (⟨#[]⟩ : ByteArray), .slice none 0 0, .int .i64 0, .int .i64 0, .int .i64 0, .slice none 0 0] (0, 0) _ rfl (by (with_reducible repeat (first | refine blk_drewN ?_ _ | refine blk_drew ?_ | refine blk_alloc ?_ _)); refine blk_put (cs := #[.int .i64 5, .int .i64 0, .int .i64 0, .string (⟨#[]⟩ : ByteArray), .string (⟨#[]⟩ : ByteArray), .slice none 0 0, .int .i64 0, .int .i64 0, .int .i64 0, .slice none 0 0]) ?_ 9 _ rfl; (with_reducible repeat (first | refine blk_drewN ?_ _ | refine blk_drew ?_ | refine blk_alloc ?_ _)); refine blk_put (cs := #[.int .i64 5, .int .i64 0, .int .i64 0, .string (⟨#[]⟩ : ByteArray), .string (⟨#[]⟩ : ByteArray), .slice none 0 0, .int .i64 0, .int .i64 0, .int .i64 0, .slice none 0 0]) ?_ 8 _ rfl; (with_reducible repeat (first | refine blk_drewN ?_ _ | refine blk_drew ?_ | refine blk_alloc ?_ _)); refine blk_put (cs := #[.int .i64 5, .int .i64 0, .int .i64 0, .string (⟨#[]⟩ : ByteArray), .string (⟨#[]⟩ : ByteArray), .slice none 0 0, .int .i64 0, .int .i64 0, .int .i64 0, .slice none 0 0]) ?_ 7 _ rfl; (with_reducible repeat (first | refine blk_drewN ?_ _ | refine blk_drew ?_ | refine blk_alloc ?_ _)); refine blk_put (cs := #[.int .i64 5, .int .i64 0, .int .i64 0, .string (⟨#[]⟩ : ByteArray), .string (⟨#[]⟩ : ByteArray), .slice none 0 0, .int .i64 0, .int .i64 0, .int .i64 0, .slice none 0 0]) ?_ 6 _ rfl; (with_reducible repeat (first | refine blk_drewN ?_ _ | refine blk_drew ?_ | refine blk_alloc ?_ _)); refine blk_put (cs := #[.int .i64 5, .int .i64 0, .int .i64 0, .string (⟨#[]⟩ : ByteArray), .string (⟨#[]⟩ : ByteArray), .slice none 0 0, .int .i64 0, .int .i64 0, .int .i64 0, .slice none 0 0]) ?_ 5 _ rfl; (with_reducible repeat (first | refine blk_drewN ?_ _ | refine blk_drew ?_ | refine blk_alloc ?_ _)); refine blk_put (cs := #[.int .i64 5, .int .i64 0, .int .i64 0, .string (⟨#[]⟩ : ByteArray), .string (⟨#[]⟩ : ByteArray), .slice none 0 0, .int .i64 0, .int .i64 0, .int .i64 0, .slice none 0 0]) ?_ 4 _ rfl; (with_reducible repeat (first | refine blk_drewN ?_ _ | refine blk_drew ?_ | refine blk_alloc ?_ _)); refine blk_put (cs := #[.int .i64 5, .int .i64 0, .int .i64 0, .string (⟨#[]⟩ : ByteArray), .string (⟨#[]⟩ : ByteArray), .slice none 0 0, .int .i64 0, .int .i64 0, .int .i64 0, .slice none 0 0]) ?_ 3 _ rfl; (with_reducible repeat (first | refine blk_drewN ?_ _ | refine blk_drew ?_ | refine blk_alloc ?_ _)); refine blk_put (cs := #[.int .i64 5, .int .i64 0, .int .i64 0, .string (⟨#[]⟩ : ByteArray), .string (⟨#[]⟩ : ByteArray), .slice none 0 0, .int .i64 0, .int .i64 0, .int .i64 0, .slice none 0 0]) ?_ 2 _ rfl; (with_reducible repeat (first | refine blk_drewN ?_ _ | refine blk_drew ?_ | refine blk_alloc ?_ _)); refine blk_put (cs := #[.int .i64 5, .int .i64 0, .int .i64 0, .string (⟨#[]⟩ : ByteArray), .string (⟨#[]⟩ : ByteArray), .slice none 0 0, .int .i64 0, .int .i64 0, .int .i64 0, .slice none 0 0]) ?_ 1 _ rfl; (with_reducible repeat (first | refine blk_drewN ?_ _ | refine blk_drew ?_ | refine blk_alloc ?_ _)); refine blk_put (cs := #[.int .i64 0, .int .i64 0, .int .i64 0, .string (⟨#[]⟩ : ByteArray), .string (⟨#[]⟩ : ByteArray), .slice none 0 0, .int .i64 0, .int .i64 0, .int .i64 0, .slice none 0 0]) ?_ 0 _ rfl; (with_reducible repeat (first | refine blk_drewN ?_ _ | refine blk_drew ?_ | refine blk_alloc ?_ _)); exact BK279.out) Try.underlying39 rfl (by kernel_rfl)) rfl ?_
  exact ⟨_, _, ve_, by first | exact Kd.R_nil _ _ _ _ _ | exact Kd.N_nil _ _ _ _ _ | exact Kd.V_nil _ _ _ _ _ | exact Kd.Q_nil _ _ _ _ _ | exact Kd.S_nil _ _ _ _ _, by first | exact Kd.R_nil _ _ _ _ _ | exact Kd.N_nil _ _ _ _ _ | exact Kd.V_nil _ _ _ _ _ | exact Kd.Q_nil _ _ _ _ _ | exact Kd.S_nil _ _ _ _ _, hs_⟩
 ·
  rw [if_neg c2] at H
  have c2b0 : decide ((l0.length : Int) < 2) = false := decide_eq_false c2
  have c2b1 : decide (l0.length < 2) = false := decide_eq_false (by omega)
  clear c2
  (try simp only [c2b0, c2b1])
  by_cases c5 : 0 < (l0.length : Int)
  ·
   rw [if_pos c5] at H
   have c5b0 : decide (0 < (l0.length : Int)) = true := decide_eq_true c5
   have c5b1 : decide (0 < l0.length) = true := decide_eq_true (by omega)
   clear c5
   (try simp only [c5b0, c5b1])
   try go_wp2_with (first | ((with_reducible refine gate_dst (N := 2) rfl ?_); (try (refine gate_guard (by rfl) ?_; dsimp only)); refine box_event ?hg (N := 2) ?hd (cs := #[.int .i64 0, .int .i64 0, .int .i64 0, .string (⟨#[]⟩ : ByteArray), .string (⟨#[]⟩ : ByteArray), .slice none 0 0, .int .i64 0, .int .i64 0, .int .i64 0, .slice none 0 0]) (t := 39) ?hr ?_; (case hd => rfl); (case hg => rfl); (case hr => first | (go_simp; done) | (go_simp; rfl)); intro gb279 hg w8 hbox hb; have n0_ := Aside0.mk (below_step (hb_) hb); have n1_ := Aside0.mk (hbox); have n2_ := Aside0.mk ((by rw [hg]; exact (below_size (hb_)) : w.heap.size ≤ gb279)); have n3_ := Aside0.mk ((by rw [hg]; exact (below_size (hb_)) : w.heap.size ≤ gb279)); clear HB; have HB := n0_; have BK279 := n1_; have GW279 := n2_; have GE279 := n3_; clear n0_ n1_ n2_ n3_; clear hb hbox hg))
   replace BK279 := Aside0.mk (blk_drew BK279.out)
   replace HB := Aside0.mk (below_drew1 HB.out)
   have p280 : 0 ≤ (0 : Int) := (by omega)
   by_cases c6 : 1 < (l0.length : Int)
   case neg => rw [if_neg c6] at H; exact absurd H (by simp)
   rw [if_pos c6] at H
   have c6b0 : decide (1 < (l0.length : Int)) = true := decide_eq_true c6
   have c6b1 : decide (1 < l0.length) = true := decide_eq_true (by omega)
   clear c6
   have HC7 := Aside0.mk H
   clear H
   (try simp only [c6b0, c6b1])
   have q280 : 0 < (l0.length : Int) := od_
   obtain ⟨ad280, e280, hx280_0⟩ := Kd.at_int HR0.out 0 p280 q280
   have hw280_0 := hx280_0
   (try simp only [Int.toNat_zero, Nat.zero_mul, Addr.add_zero'] at hw280_0)
   cases e280
   have qi280 : (0 < l0.length) = True := eq_true (by omega)
   (try rw [show ((0 : Int)).toNat = 0 from rfl] at hx280_0)
   (try rw [Addr.add_zero'] at hx280_0)
   replace hx280_0 := ck_ HB.out hx280_0
   replace p280 := eq_true p280
   replace q280 := eq_true q280
   have p281 : 0 ≤ (1 : Int) := (by omega)
   have q281 : 1 < (l0.length : Int) := od_
   obtain ⟨ad281, e281, hx281_0⟩ := Kd.at_int HR0.out 1 p281 q281
   have hw281_0 := hx281_0
   (try rw [show ((1 : Int)).toNat = 1 from rfl] at hw281_0)
   (try rw [show 1 * 1 = 1 from rfl] at hw281_0)
   (try simp only [Nat.reduceMul, Nat.reduceEqDiff, Go.Addr.add, ↓reduceIte] at hw281_0)
   obtain rfl : ad280 = ad281 := (by injection e281)
   (try simp only [show (1 : Int).toNat = 1 from rfl, Nat.reduceMul, Nat.reduceEqDiff, Go.Addr.add, ↓reduceIte] at hx281_0)
   have qi281 : (1 < l0.length) = True := eq_true (by omega)
   (try rw [show ((1 : Int)).toNat = 1 from rfl] at hx281_0)
   replace hx281_0 := ck_ HB.out hx281_0
   replace p281 := eq_true p281
   replace q281 := eq_true q281
   refine start_ (n := 11) (S := fun w' => w'.cell? ad280 = some (.int .u8 (rd l0 0)) ∧ w'.cell? ⟨ad280.block, ad280.off + 1, none⟩ = some (.int .u8 (rd l0 1))) (ds := []) #[false, false, false, false, false, false, false, false, false, false, false] (by kernel_rfl) rfl rfl ⟨(ck_ HB.out hw280_0), (ck_ HB.out hw281_0)⟩ (fun hHeld => ?_); refine with_tabW spec_ReadOp.tab3 spec_ReadOp.bits3 (fun HT_ HW_ => ?_)
   generalize w8.drew = w9 at BK279 HB hx280_0 hx281_0 hHeld ⊢
   refine pu_ (i := 0) (N := some 9) (v := ?_) (a' := ?_) rfl rfl (any_of HT_.out (by kernel_rfl)) (fun _ _ _ h => h) (Or.inl ⟨by rfl, ?_⟩) ?_ ?_; rotate_left
   · intro w'; go_simp; all_goals (first | with_reducible rfl | (simp [Instr.field, go_sem]; rfl))
   rotate_left
   · simp only [Act.put, List.setIfInBounds_toArray, List.set_cons_zero, List.set_cons_succ, i64_w, i32_w]; rfl
   refine pu_ (i := 1) (N := some 10) (v := ?_) (a' := ?_) rfl rfl (any_of HT_.out (by kernel_rfl)) (fun _ _ _ h => h) (Or.inl ⟨by rfl, ?_⟩) ?_ ?_; rotate_left
   · intro w'; go_simp; all_goals (first | with_reducible rfl | (simp [Instr.field, go_sem]; rfl))
   rotate_left
   · simp only [Act.put, List.setIfInBounds_toArray, List.set_cons_zero, List.set_cons_succ, i64_w, i32_w]; rfl
   refine pu_ (i := 5) (N := some 14) (v := ?_) (a' := ?_) rfl rfl (any_of HT_.out (by kernel_rfl)) (fun _ _ _ h => h) (Or.inl ⟨by rfl, ?_⟩) ?_ ?_; rotate_left
   · intro w'; go_simp; all_goals (first | with_reducible rfl | (simp [Instr.field, go_sem]; rfl))
   rotate_left
   · simp only [Act.put, List.setIfInBounds_toArray, List.set_cons_zero, List.set_cons_succ, i64_w, i32_w]; rfl
   refine pu_ (i := 6) (N := some 15) (v := ?_) (a' := ?_) rfl rfl (any_of HT_.out (by kernel_rfl)) (fun _ _ _ h => h) (Or.inl ⟨by rfl, ?_⟩) ?_ ?_; rotate_left
   · intro w'; go_simp; all_goals (first | with_reducible rfl | (simp [Instr.field, go_sem]; rfl))
   rotate_left
   · simp only [Act.put, List.setIfInBounds_toArray, List.set_cons_zero, List.set_cons_succ, i64_w, i32_w]; rfl
   refine ta_ (i := 2) (N := some 11) (v := ?_) (a' := ?_) rfl rfl (take_ofW HT_.out HW_.out (by kernel_rfl)) (fun _ _ _ h => h) (Or.inl ⟨by rfl, ?_⟩) hHeld ?_ ?_; rotate_left
   · rintro w' ⟨s0, s1⟩; go_simp; all_goals (first | with_reducible rfl | (simp [Instr.field, go_sem]; rfl))
   rotate_left
   · simp only [Act.put, List.setIfInBounds_toArray, List.set_cons_zero, List.set_cons_succ, i64_w, i32_w]; rfl
   refine pu_ (i := 3) (N := some 12) (v := ?_) (a' := ?_) rfl rfl (any_of HT_.out (by kernel_rfl)) (fun _ _ _ h => h) (Or.inl ⟨by rfl, ?_⟩) ?_ ?_; rotate_left
   · intro w'; go_simp; all_goals (first | with_reducible rfl | (simp [Instr.field, go_sem]; rfl))
   rotate_left
   · simp only [Act.put, List.setIfInBounds_toArray, List.set_cons_zero, List.set_cons_succ, i64_w, i32_w]; rfl
   refine pu_ (i := 4) (N := some 13) (v := ?_) (a' := ?_) rfl rfl (any_of HT_.out (by kernel_rfl)) (fun _ _ _ h => h) (Or.inl ⟨by rfl, ?_⟩) ?_ ?_; rotate_left
   · intro w'; go_simp; all_goals (first | with_reducible rfl | (simp [Instr.field, go_sem]; rfl))
   rotate_left
   · simp only [Act.put, List.setIfInBounds_toArray, List.set_cons_zero, List.set_cons_succ, i64_w, i32_w]; rfl
   refine ta_ (i := 7) (N := some 16) (v := ?_) (a' := ?_) rfl rfl (take_ofW HT_.out HW_.out (by kernel_rfl)) (fun _ _ _ h => h) (Or.inl ⟨by rfl, ?_⟩) hHeld ?_ ?_; rotate_left
   · rintro w' ⟨s0, s1⟩; go_simp; all_goals (first | with_reducible rfl | (simp [Instr.field, go_sem]; rfl))
   rotate_left
   · simp only [Act.put, List.setIfInBounds_toArray, List.set_cons_zero, List.set_cons_succ, i64_w, i32_w]; rfl
   refine pu_ (i := 8) (N := some 17) (v := ?_) (a' := ?_) rfl rfl (any_of HT_.out (by kernel_rfl)) (fun _ _ _ h => h) (Or.inl ⟨by rfl, ?_⟩) ?_ ?_; rotate_left
   · intro w'; go_simp; all_goals (first | with_reducible rfl | (simp [Instr.field, go_sem]; rfl))
   rotate_left
   · simp only [Act.put, List.setIfInBounds_toArray, List.set_cons_zero, List.set_cons_succ, i64_w, i32_w]; rfl
   refine pu_ (i := 9) (N := some 18) (v := ?_) (a' := ?_) rfl rfl (any_of HT_.out (by kernel_rfl)) (fun _ _ _ h => h) (Or.inl ⟨by rfl, ?_⟩) ?_ ?_; rotate_left
   · intro w'; go_simp; all_goals (first | with_reducible rfl | (simp [Instr.field, go_sem]; rfl))
   rotate_left
   · simp only [Act.put, List.setIfInBounds_toArray, List.set_cons_zero, List.set_cons_succ, i64_w, i32_w]; rfl
   refine pu_ (i := 10) (N := some 3) (v := ?_) (a' := ?_) rfl rfl (any_of HT_.out (by kernel_rfl)) (fun _ _ _ h => h) (Or.inl ⟨by rfl, ?_⟩) ?_ ?_; rotate_left
   · intro w'; go_simp; all_goals (first | with_reducible rfl | (simp [Instr.field, go_sem]; rfl))
   rotate_left
   · simp only [Act.put, List.setIfInBounds_toArray, List.set_cons_zero, List.set_cons_succ, i64_w, i32_w]; rfl
   refine done_ (done_of HT_.out (by kernel_rfl)) ?_
   go_upto_region 4 with (fail)
   go_cut [26] (fun v26 wc => ∃ (kq : Nat) (x26_6 : Bool), v26 = .bool x26_6 ∧ Aside0 (spec_ReadOp.j0 kq l0 (wrap64 ((wrap64 ((wrap64 (rd l0 0)) * 256)) + (wrap64 (rd l0 1)))) x26_6 = some (r1, r2, r3, r4, r5, r6, r7, r8, r9, r10)) ∧ Aside0 (kq ≤ k) ∧ Aside0 (wc.heap[gb279]? = some (.cells #[.int .i64 0, .int .i64 0, .int .i64 0, .string (⟨#[]⟩ : ByteArray), .string (⟨#[]⟩ : ByteArray), (.slice none 0 0), .int .i64 0, .int .i64 0, .int .i64 0, (.slice none 0 0)] 39 (0, 0))) ∧ Aside0 (Below w.heap.size w wc))
   case first =>
    have H := HC7.out
    clear HC7
    by_cases c10 : (wrap64 ((wrap64 ((wrap64 (rd l0 0)) * 256)) + (wrap64 (rd l0 1)))) < 2
    ·
     rw [if_pos c10] at H
     have c10b0 : decide ((wrap64 ((wrap64 ((wrap64 (rd l0 0)) * 256)) + (wrap64 (rd l0 1)))) < 2) = true := decide_eq_true c10
     clear c10
     (first | rw [c10b0] | (simp only [i64_w, i32_w]; rw [c10b0]) | skip)
     have H' := Aside0.mk H
     clear H
     go_wp2
     go_meet
     case rel => exact ⟨_, (true), vl_, H', ⟨le_⟩, ⟨blk_up BK279.out⟩, ⟨hs_⟩⟩
    ·
     rw [if_neg c10] at H
     have c10b0 : decide ((wrap64 ((wrap64 ((wrap64 (rd l0 0)) * 256)) + (wrap64 (rd l0 1)))) < 2) = false := decide_eq_false c10
     clear c10
     (first | rw [c10b0] | (simp only [i64_w, i32_w]; rw [c10b0]) | skip)
     have H' := Aside0.mk H
     clear H
     go_wp2
     go_meet
     case rel => exact ⟨_, (decide ((wrap64 ((wrap64 ((wrap64 (rd l0 0)) * 256)) + (wrap64 (rd l0 1)))) > (l0.length : Int))), vl_, H', ⟨le_⟩, ⟨blk_up BK279.out⟩, ⟨hs_⟩⟩
   case rest =>
    clear HC7
    try clear c2
    try clear c2b0
    try clear c2b1
    try clear q2
    try clear hx2
    try clear qi2
    try clear c5
    try clear c5b0
    try clear c5b1
    try clear c6
    try clear c6b0
    try clear c6b1
    try clear hx280_0
    try clear hx281_0
    try clear p280
    try clear p281
    try clear q280
    try clear q281
    obtain ⟨kq, x26_6, rfl, HA, HJ6, BK279, HB⟩ := hcut
    cases kq with
    | zero => exact absurd HA.out (by simp [spec_ReadOp.j0])
    | succ kj6 =>
      have H := HA.out
      clear HA
      simp only [spec_ReadOp.j0] at H
      by_cases c11 : x26_6 = true
      ·
       subst c11
       (try rw [if_pos rfl] at H)
       simp only [Option.some.injEq, Prod.mk.injEq] at H
       obtain ⟨rfl, rfl, rfl, rfl, rfl, rfl, rfl, rfl, rfl, rfl⟩ := H
       have hcz12_0 : wc.cell? ⟨gb279, 0, none⟩ = some (.int .i64 0) := (blk_cell BK279.out 0).trans rfl
       have hcz12_1 : wc.cell? ⟨gb279, 1, none⟩ = some (.int .i64 0) := (blk_cell BK279.out 1).trans rfl
       have hcz12_2 : wc.cell? ⟨gb279, 2, none⟩ = some (.int .i64 0) := (blk_cell BK279.out 2).trans rfl
       have hcz12_3 : wc.cell? ⟨gb279, 3, none⟩ = some (.string (⟨#[]⟩ : ByteArray)) := (blk_cell BK279.out 3).trans rfl
       have hcz12_4 : wc.cell? ⟨gb279, 4, none⟩ = some (.string (⟨#[]⟩ : ByteArray)) := (blk_cell BK279.out 4).trans rfl
       have hcz12_5 : wc.cell? ⟨gb279, 5, none⟩ = some (.slice none 0 0) := (blk_cell BK279.out 5).trans rfl
       have hcz12_6 : wc.cell? ⟨gb279, 6, none⟩ = some (.int .i64 0) := (blk_cell BK279.out 6).trans rfl
       have hcz12_7 : wc.cell? ⟨gb279, 7, none⟩ = some (.int .i64 0) := (blk_cell BK279.out 7).trans rfl
       have hcz12_8 : wc.cell? ⟨gb279, 8, none⟩ = some (.int .i64 0) := (blk_cell BK279.out 8).trans rfl
       have hcz12_9 : wc.cell? ⟨gb279, 9, none⟩ = some (.slice none 0 0) := (blk_cell BK279.out 9).trans rfl
       have hfz12_0 := blk_frozen BK279.out 0
       have hfz12_1 := blk_frozen BK279.out 1
       have hfz12_2 := blk_frozen BK279.out 2
       have hfz12_3 := blk_frozen BK279.out 3
       have hfz12_4 := blk_frozen BK279.out 4
       have hfz12_5 := blk_frozen BK279.out 5
       have hfz12_6 := blk_frozen BK279.out 6
       have hfz12_7 := blk_frozen BK279.out 7
       have hfz12_8 := blk_frozen BK279.out 8
       have hfz12_9 := blk_frozen BK279.out 9
       go_wp2
       refine bodyPost_ret (results_cell_row rfl _ _ gb279 39 #[.int .i64 5, .int .i64 0, .int .i64 0, .string (⟨#[]⟩ : ByteArray), .string (⟨#[]⟩ : ByteArray), .slice none 0 0, .int .i64 0, .int .i64 0, .int .i64 0, .slice none 0 0] (0, 0) _ rfl (by (with_reducible repeat (first | refine blk_drewN ?_ _ | refine blk_drew ?_ | refine blk_alloc ?_ _)); refine blk_put (cs := #[.int .i64 5, .int .i64 0, .int .i64 0, .string (⟨#[]⟩ : ByteArray), .string (⟨#[]⟩ : ByteArray), .slice none 0 0, .int .i64 0, .int .i64 0, .int .i64 0, .slice none 0 0]) ?_ 9 _ rfl; (with_reducible repeat (first | refine blk_drewN ?_ _ | refine blk_drew ?_ | refine blk_alloc ?_ _)); refine blk_put (cs := #[.int .i64 5, .int .i64 0, .int .i64 0, .string (⟨#[]⟩ : ByteArray), .string (⟨#[]⟩ : ByteArray), .slice none 0 0, .int .i64 0, .int .i64 0, .int .i64 0, .slice none 0 0]) ?_ 8 _ rfl; (with_reducible repeat (first | refine blk_drewN ?_ _ | refine blk_drew ?_ | refine blk_alloc ?_ _)); refine blk_put (cs := #[.int .i64 5, .int .i64 0, .int .i64 0, .string (⟨#[]⟩ : ByteArray), .string (⟨#[]⟩ : ByteArray), .slice none 0 0, .int .i64 0, .int .i64 0, .int .i64 0, .slice none 0 0]) ?_ 7 _ rfl; (with_reducible repeat (first | refine blk_drewN ?_ _ | refine blk_drew ?_ | refine blk_alloc ?_ _)); refine blk_put (cs := #[.int .i64 5, .int .i64 0, .int .i64 0, .string (⟨#[]⟩ : ByteArray), .string (⟨#[]⟩ : ByteArray), .slice none 0 0, .int .i64 0, .int .i64 0, .int .i64 0, .slice none 0 0]) ?_ 6 _ rfl; (with_reducible repeat (first | refine blk_drewN ?_ _ | refine blk_drew ?_ | refine blk_alloc ?_ _)); refine blk_put (cs := #[.int .i64 5, .int .i64 0, .int .i64 0, .string (⟨#[]⟩ : ByteArray), .string (⟨#[]⟩ : ByteArray), .slice none 0 0, .int .i64 0, .int .i64 0, .int .i64 0, .slice none 0 0]) ?_ 5 _ rfl; (with_reducible repeat (first | refine blk_drewN ?_ _ | refine blk_drew ?_ | refine blk_alloc ?_ _)); refine blk_put (cs := #[.int .i64 5, .int .i64 0, .int .i64 0, .string (⟨#[]⟩ : ByteArray), .string (⟨#[]⟩ : ByteArray), .slice none 0 0, .int .i64 0, .int .i64 0, .int .i64 0, .slice none 0 0]) ?_ 4 _ rfl; (with_reducible repeat (first | refine blk_drewN ?_ _ | refine blk_drew ?_ | refine blk_alloc ?_ _)); refine blk_put (cs := #[.int .i64 5, .int .i64 0, .int .i64 0, .string (⟨#[]⟩ : ByteArray), .string (⟨#[]⟩ : ByteArray), .slice none 0 0, .int .i64 0, .int .i64 0, .int .i64 0, .slice none 0 0]) ?_ 3 _ rfl; (with_reducible repeat (first | refine blk_drewN ?_ _ | refine blk_drew ?_ | refine blk_alloc ?_ _)); refine blk_put (cs := #[.int .i64 5, .int .i64 0, .int .i64 0, .string (⟨#[]⟩ : ByteArray), .string (⟨#[]⟩ : ByteArray), .slice none 0 0, .int .i64 0, .int .i64 0, .int .i64 0, .slice none 0 0]) ?_ 2 _ rfl; (with_reducible repeat (first | refine blk_drewN ?_ _ | refine blk_drew ?_ | refine blk_alloc ?_ _)); refine blk_put (cs := #[.int .i64 5, .int .i64 0, .int .i64 0, .string (⟨#[]⟩ : ByteArray), .string (⟨#[]⟩ : ByteArray), .slice none 0 0, .int .i64 0, .int .i64 0, .int .i64 0, .slice none 0 0]) ?_ 1 _ rfl; (with_reducible repeat (first | refine blk_drewN ?_ _ | refine blk_drew ?_ | refine blk_alloc ?_ _)); refine blk_put (cs := #[.int .i64 0, .int .i64 0, .int .i64 0, .string (⟨#[]⟩ : ByteArray), .string (⟨#[]⟩ : ByteArray), .slice none 0 0, .int .i64 0, .int .i64 0, .int .i64 0, .slice none 0 0]) ?_ 0 _ rfl; (with_reducible repeat (first | refine blk_drewN ?_ _ | refine blk_drew ?_ | refine blk_alloc ?_ _)); exact BK279.out) Try.underlying39 rfl (by kernel_rfl)) rfl ?_
       exact ⟨_, _, ve_, by first | exact Kd.R_nil _ _ _ _ _ | exact Kd.N_nil _ _ _ _ _ | exact Kd.V_nil _ _ _ _ _ | exact Kd.Q_nil _ _ _ _ _ | exact Kd.S_nil _ _ _ _ _, by first | exact Kd.R_nil _ _ _ _ _ | exact Kd.N_nil _ _ _ _ _ | exact Kd.V_nil _ _ _ _ _ | exact Kd.Q_nil _ _ _ _ _ | exact Kd.S_nil _ _ _ _ _, hs_⟩
      ·
       replace c11 := Bool.eq_false_iff.mpr c11
       subst c11
       (try rw [if_neg (show ¬ (false = true) by decide)] at H)
       obtain ⟨ji13, hji13⟩ : ∃ j_ : Int, (wrap64 ((wrap64 ((wrap64 (rd l0 0)) * 256)) + (wrap64 (rd l0 1)))) = j_ := ⟨_, rfl⟩
       replace H : (if 0 ≤ (ji13) then (if (ji13) ≤ (l0.length : Int) then ((spec_l9Read.f kj6 (l0.take ((ji13) : Int).toNat)).bind fun bt283 => ((spec_l8Fault.f kj6 [(⟨bt283.1, bt283.2.1, bt283.2.2.1, bt283.2.2.2.1, bt283.2.2.2.2.1, bt283.2.2.2.2.2.1, bt283.2.2.2.2.2.2.1, bt283.2.2.2.2.2.2.2⟩ : S37)]).bind fun t296 => (if t296 = 0 then ((spec_l9Pack.f kj6 [(⟨bt283.1, bt283.2.1, bt283.2.2.1, bt283.2.2.2.1, bt283.2.2.2.2.1, bt283.2.2.2.2.2.1, bt283.2.2.2.2.2.2.1, bt283.2.2.2.2.2.2.2⟩ : S37)]).bind fun t297 => (if (strOfNums t297).toList = (strOfNums (l0.take ((ji13) : Int).toNat)).toList then (some (0, (ji13), bt283.1, bt283.2.1, bt283.2.2.1, bt283.2.2.2.1, bt283.2.2.2.2.1, bt283.2.2.2.2.2.1, bt283.2.2.2.2.2.2.1, bt283.2.2.2.2.2.2.2)) else (some (5, 0, 0, (⟨#[]⟩ : ByteArray), (⟨#[]⟩ : ByteArray), ([] : List Int), 0, 0, 0, ([] : List Int))))) else (some (5, 0, 0, (⟨#[]⟩ : ByteArray), (⟨#[]⟩ : ByteArray), ([] : List Int), 0, 0, 0, ([] : List Int)))))) else (none)) else (none)) = some (r1, r2, r3, r4, r5, r6, r7, r8, r9, r10) := by first | (rw [hji13] at H; exact H) | (simp only [hji13] at H ⊢; exact H)
       have hji13w : (IntKind.i64.wrap ((wrap64 ((wrap64 (rd l0 0)) * 256)) + (wrap64 (rd l0 1)))) = ji13 := (i64_w _).trans hji13
       by_cases c14 : 0 ≤ (ji13)
       case neg => rw [if_neg c14] at H; exact absurd H (by simp)
       rw [if_pos c14] at H
       have c14b0 := eq_true c14
       have c14b1 : decide (0 ≤ (ji13)) = true := decide_eq_true c14
       clear c14
       by_cases c15 : (ji13) ≤ (l0.length : Int)
       case neg => rw [if_neg c15] at H; exact absurd H (by simp)
       rw [if_pos c15] at H
       have c15b0 := eq_true c15
       have c15b1 : decide ((ji13) ≤ (l0.length : Int)) = true := decide_eq_true c15
       clear c15
       replace H := Option.bind_eq_some_iff.mp H
       obtain ⟨⟨t283, t284, t285, t286, t289, t290, t291, t292⟩, A160, H⟩ := H
       (try dsimp only at H)
       have A16 := Aside0.mk A160
       clear A160
       replace H := Option.bind_eq_some_iff.mp H
       obtain ⟨t296, A170, H⟩ := H
       (try dsimp only at H)
       have A17 := Aside0.mk A170
       clear A170
       obtain ⟨i023, hi023, _, hsz23, _⟩ := info_parts info5
       obtain ⟨hcut23, hA23, hC23⟩ := print_take_of (P := Try.prog) (Value.int .u8) 0 24 5 .i64 Try.underlying24 hi023 hsz23 (some ad280) c0 l0 (ji13) (od_) (od_) HC0.out
       have HR282 := Aside0.mk (Kd.C_of_reads (h1 := fun _ => rfl) (hA23 _ (Kd.reads_of_C HR0.out)))
       have HC282 := Aside0.mk hC23
       clear hA23 hC23 hi023 hsz23
       try go_wp2_with (first | ((with_reducible refine gate_callee (f := 50) rfl ?_); refine goesL_ (some 31) rfl rfl Try.func50 (by kernel_rfl) rfl #[.slice (some ad280) (l0.take ((ji13) : Int).toNat).length c0] rfl (by (try simp only [List.map_toArray, List.map_cons, List.map_nil]); first | done | (rw [show (l0.take ((ji13) : Int).toNat).length = (ji13).toNat from (by rw [List.length_take]; have h_ : ((ji13) : Int) ≤ (l0.length : Int) := od_; omega)] <;> rfl) | (simp only [hji13]; rfl) | rfl | (simp only [List.length_drop, List.length_take]; rfl)) ?_; (with_reducible refine (spec_l9Read.calls kj6 _ _ (l0.take ((ji13) : Int).toNat) t283 t284 t285 t286 t289 t290 t291 t292 _ ?_ ?_ A16.out).mono ?_); exact C_up (Kd.C_below HR282.out HB.out); exact HC282.out; rintro e w24 ⟨v287, v293, rfl, ho0, ho1, hb⟩; refine ⟨_, rfl, ?_⟩; have HO288 := Aside0.mk (Kd.R_lower ho0 (below_size (hs_))); have HO294 := Aside0.mk (Kd.R_lower ho1 (below_size (hs_))); replace BK279 := Aside0.mk (blk_below (g := gb279) (o := .cells #[.int .i64 0, .int .i64 0, .int .i64 0, .string (⟨#[]⟩ : ByteArray), .string (⟨#[]⟩ : ByteArray), .slice none 0 0, .int .i64 0, .int .i64 0, .int .i64 0, .slice none 0 0] 39 (0, 0)) (blk_up BK279.out) hb); replace HB := Aside0.mk (below_step (hs_) hb); (try clear hb); (try clear ho0); (try clear ho1)) | ((with_reducible refine gate_dst (N := 4) rfl ?_); (try (refine gate_guard (by rfl) ?_; dsimp only)); refine box_event ?hg (N := 4) ?hd (cs := #[.int .i64 0, .string (⟨#[]⟩ : ByteArray), .string (⟨#[]⟩ : ByteArray), .slice none 0 0, .int .i64 0, .int .i64 0, .int .i64 0, .slice none 0 0]) (t := 37) ?hr ?_; (case hd => rfl); (case hg => rfl); (case hr => first | (go_simp; done) | (go_simp; rfl)); intro gb295 hg w25 hbox hb; have n0_ := Aside0.mk (Kd.R_below (R_up HO288.out) hb); have n1_ := Aside0.mk (Kd.R_below (R_up HO294.out) hb); have n2_ := Aside0.mk (blk_below (g := gb279) (o := .cells #[.int .i64 0, .int .i64 0, .int .i64 0, .string (⟨#[]⟩ : ByteArray), .string (⟨#[]⟩ : ByteArray), .slice none 0 0, .int .i64 0, .int .i64 0, .int .i64 0, .slice none 0 0] 39 (0, 0)) (blk_up BK279.out) hb); have n3_ := Aside0.mk (below_step (hs_) hb); have n4_ := Aside0.mk (hbox); have n5_ := Aside0.mk ((by rw [hg]; exact (below_size (hs_)) : w.heap.size ≤ gb295)); have n6_ := Aside0.mk ((by rw [hg]; exact (below_size (hs_)) : w.heap.size ≤ gb295)); have n7_ := Aside0.mk ((by rw [hg]; exact Nat.ne_of_lt (blk_lt (g := gb279) (o := .cells #[.int .i64 0, .int .i64 0, .int .i64 0, .string (⟨#[]⟩ : ByteArray), .string (⟨#[]⟩ : ByteArray), .slice none 0 0, .int .i64 0, .int .i64 0, .int .i64 0, .slice none 0 0] 39 (0, 0)) (blk_up BK279.out)) : gb279 ≠ gb295)); have n8_ := Aside0.mk ((by rw [hg]; exact Nat.ne_of_gt (blk_lt (g := gb279) (o := .cells #[.int .i64 0, .int .i64 0, .int .i64 0, .string (⟨#[]⟩ : ByteArray), .string (⟨#[]⟩ : ByteArray), .slice none 0 0, .int .i64 0, .int .i64 0, .int .i64 0, .slice none 0 0] 39 (0, 0)) (blk_up BK279.out)) : gb295 ≠ gb279)); clear HO288; clear HO294; clear BK279; clear HB; have HO288 := n0_; have HO294 := n1_; have BK279 := n2_; have HB := n3_; have BK295 := n4_; have GW295 := n5_; have GE295 := n6_; have NB279_295 := n7_; have NB295_279 := n8_; clear n0_ n1_ n2_ n3_ n4_ n5_ n6_ n7_ n8_; clear hb hbox hg; have hnb26 := NB295_279.out; have hnc26 := NB279_295.out; obtain ⟨_, _, _, _, _, _, _, _⟩ := blk_cells8 BK295.out; obtain ⟨_, _, _, _, _, _, _, _⟩ := blk_frozen8 BK295.out; obtain ⟨Ao28, co28, eo28⟩ := Kd.R_slice HO288.out; subst eo28; obtain ⟨Ao29, co29, eo29⟩ := Kd.R_slice HO294.out; subst eo29))
       have n0_ : Aside0 (Kd.R (Kd.int .i64) 2 ((((((((w25.setCell ⟨gb295, 0, none⟩ (.int .i64 t283)).setCell ⟨gb295, 1, none⟩ (.string t284)).setCell ⟨gb295, 2, none⟩ (.string t285)).setCell ⟨gb295, 3, none⟩ (.slice Ao28 t286.length co28)).setCell ⟨gb295, 4, none⟩ (.int .i64 t289)).setCell ⟨gb295, 5, none⟩ (.int .i64 t290)).setCell ⟨gb295, 6, none⟩ (.int .i64 t291)).setCell ⟨gb295, 7, none⟩ (.slice Ao29 t292.length co29)) w.heap.size (fun _ => True) (.slice Ao28 t286.length co28) t286) := ⟨by (with_reducible repeat (first | apply Kd.R_alloc | apply Kd.R_drewN | apply Kd.R_drew)); exact Kd.R_mono (Kd.R_far (p := ⟨gb295, 7, none⟩) (Kd.R_far (p := ⟨gb295, 6, none⟩) (Kd.R_far (p := ⟨gb295, 5, none⟩) (Kd.R_far (p := ⟨gb295, 4, none⟩) (Kd.R_far (p := ⟨gb295, 3, none⟩) (Kd.R_far (p := ⟨gb295, 2, none⟩) (Kd.R_far (p := ⟨gb295, 1, none⟩) (Kd.R_far (p := ⟨gb295, 0, none⟩) (Kd.R_types HO288.out BK295.out (by decide)) (fun _ hk => hk.2) (.int .i64 t283)) (fun _ hk => hk.2) (.string t284)) (fun _ hk => hk.2) (.string t285)) (fun _ hk => hk.2) (.slice Ao28 t286.length co28)) (fun _ hk => hk.2) (.int .i64 t289)) (fun _ hk => hk.2) (.int .i64 t290)) (fun _ hk => hk.2) (.int .i64 t291)) (fun _ hk => hk.2) (.slice Ao29 t292.length co29)) (fun _ hk => trivial)⟩
       have n1_ : Aside0 (Kd.R (Kd.int .u8) 5 ((((((((w25.setCell ⟨gb295, 0, none⟩ (.int .i64 t283)).setCell ⟨gb295, 1, none⟩ (.string t284)).setCell ⟨gb295, 2, none⟩ (.string t285)).setCell ⟨gb295, 3, none⟩ (.slice Ao28 t286.length co28)).setCell ⟨gb295, 4, none⟩ (.int .i64 t289)).setCell ⟨gb295, 5, none⟩ (.int .i64 t290)).setCell ⟨gb295, 6, none⟩ (.int .i64 t291)).setCell ⟨gb295, 7, none⟩ (.slice Ao29 t292.length co29)) w.heap.size (fun _ => True) (.slice Ao29 t292.length co29) t292) := ⟨by (with_reducible repeat (first | apply Kd.R_alloc | apply Kd.R_drewN | apply Kd.R_drew)); exact Kd.R_mono (Kd.R_far (p := ⟨gb295, 7, none⟩) (Kd.R_far (p := ⟨gb295, 6, none⟩) (Kd.R_far (p := ⟨gb295, 5, none⟩) (Kd.R_far (p := ⟨gb295, 4, none⟩) (Kd.R_far (p := ⟨gb295, 3, none⟩) (Kd.R_far (p := ⟨gb295, 2, none⟩) (Kd.R_far (p := ⟨gb295, 1, none⟩) (Kd.R_far (p := ⟨gb295, 0, none⟩) (Kd.R_types HO294.out BK295.out (by decide)) (fun _ hk => hk.2) (.int .i64 t283)) (fun _ hk => hk.2) (.string t284)) (fun _ hk => hk.2) (.string t285)) (fun _ hk => hk.2) (.slice Ao28 t286.length co28)) (fun _ hk => hk.2) (.int .i64 t289)) (fun _ hk => hk.2) (.int .i64 t290)) (fun _ hk => hk.2) (.int .i64 t291)) (fun _ hk => hk.2) (.slice Ao29 t292.length co29)) (fun _ hk => trivial)⟩
       have n2_ : Aside0 (((((((((w25.setCell ⟨gb295, 0, none⟩ (.int .i64 t283)).setCell ⟨gb295, 1, none⟩ (.string t284)).setCell ⟨gb295, 2, none⟩ (.string t285)).setCell ⟨gb295, 3, none⟩ (.slice Ao28 t286.length co28)).setCell ⟨gb295, 4, none⟩ (.int .i64 t289)).setCell ⟨gb295, 5, none⟩ (.int .i64 t290)).setCell ⟨gb295, 6, none⟩ (.int .i64 t291)).setCell ⟨gb295, 7, none⟩ (.slice Ao29 t292.length co29)).heap[gb279]? = some (.cells #[.int .i64 0, .int .i64 0, .int .i64 0, .string (⟨#[]⟩ : ByteArray), .string (⟨#[]⟩ : ByteArray), .slice none 0 0, .int .i64 0, .int .i64 0, .int .i64 0, .slice none 0 0] 39 (0, 0))) := ⟨by (with_reducible repeat (first | refine blk_drewN ?_ _ | refine blk_drew ?_ | refine blk_alloc ?_ _)); refine blk_far ?_ NB279_295.out _; (with_reducible repeat (first | refine blk_drewN ?_ _ | refine blk_drew ?_ | refine blk_alloc ?_ _)); refine blk_far ?_ NB279_295.out _; (with_reducible repeat (first | refine blk_drewN ?_ _ | refine blk_drew ?_ | refine blk_alloc ?_ _)); refine blk_far ?_ NB279_295.out _; (with_reducible repeat (first | refine blk_drewN ?_ _ | refine blk_drew ?_ | refine blk_alloc ?_ _)); refine blk_far ?_ NB279_295.out _; (with_reducible repeat (first | refine blk_drewN ?_ _ | refine blk_drew ?_ | refine blk_alloc ?_ _)); refine blk_far ?_ NB279_295.out _; (with_reducible repeat (first | refine blk_drewN ?_ _ | refine blk_drew ?_ | refine blk_alloc ?_ _)); refine blk_far ?_ NB279_295.out _; (with_reducible repeat (first | refine blk_drewN ?_ _ | refine blk_drew ?_ | refine blk_alloc ?_ _)); refine blk_far ?_ NB279_295.out _; (with_reducible repeat (first | refine blk_drewN ?_ _ | refine blk_drew ?_ | refine blk_alloc ?_ _)); refine blk_far ?_ NB279_295.out _; (with_reducible repeat (first | refine blk_drewN ?_ _ | refine blk_drew ?_ | refine blk_alloc ?_ _)); exact BK279.out⟩
       have n3_ : Aside0 (((((((((w25.setCell ⟨gb295, 0, none⟩ (.int .i64 t283)).setCell ⟨gb295, 1, none⟩ (.string t284)).setCell ⟨gb295, 2, none⟩ (.string t285)).setCell ⟨gb295, 3, none⟩ (.slice Ao28 t286.length co28)).setCell ⟨gb295, 4, none⟩ (.int .i64 t289)).setCell ⟨gb295, 5, none⟩ (.int .i64 t290)).setCell ⟨gb295, 6, none⟩ (.int .i64 t291)).setCell ⟨gb295, 7, none⟩ (.slice Ao29 t292.length co29)).heap[gb295]? = some (.cells #[.int .i64 t283, .string t284, .string t285, .slice Ao28 t286.length co28, .int .i64 t289, .int .i64 t290, .int .i64 t291, .slice Ao29 t292.length co29] 37 (0, 0))) := ⟨by (with_reducible repeat (first | refine blk_drewN ?_ _ | refine blk_drew ?_ | refine blk_alloc ?_ _)); refine blk_put (cs := #[.int .i64 t283, .string t284, .string t285, .slice Ao28 t286.length co28, .int .i64 t289, .int .i64 t290, .int .i64 t291, .slice none 0 0]) ?_ 7 _ rfl; (with_reducible repeat (first | refine blk_drewN ?_ _ | refine blk_drew ?_ | refine blk_alloc ?_ _)); refine blk_put (cs := #[.int .i64 t283, .string t284, .string t285, .slice Ao28 t286.length co28, .int .i64 t289, .int .i64 t290, .int .i64 0, .slice none 0 0]) ?_ 6 _ rfl; (with_reducible repeat (first | refine blk_drewN ?_ _ | refine blk_drew ?_ | refine blk_alloc ?_ _)); refine blk_put (cs := #[.int .i64 t283, .string t284, .string t285, .slice Ao28 t286.length co28, .int .i64 t289, .int .i64 0, .int .i64 0, .slice none 0 0]) ?_ 5 _ rfl; (with_reducible repeat (first | refine blk_drewN ?_ _ | refine blk_drew ?_ | refine blk_alloc ?_ _)); refine blk_put (cs := #[.int .i64 t283, .string t284, .string t285, .slice Ao28 t286.length co28, .int .i64 0, .int .i64 0, .int .i64 0, .slice none 0 0]) ?_ 4 _ rfl; (with_reducible repeat (first | refine blk_drewN ?_ _ | refine blk_drew ?_ | refine blk_alloc ?_ _)); refine blk_put (cs := #[.int .i64 t283, .string t284, .string t285, .slice none 0 0, .int .i64 0, .int .i64 0, .int .i64 0, .slice none 0 0]) ?_ 3 _ rfl; (with_reducible repeat (first | refine blk_drewN ?_ _ | refine blk_drew ?_ | refine blk_alloc ?_ _)); refine blk_put (cs := #[.int .i64 t283, .string t284, .string (⟨#[]⟩ : ByteArray), .slice none 0 0, .int .i64 0, .int .i64 0, .int .i64 0, .slice none 0 0]) ?_ 2 _ rfl; (with_reducible repeat (first | refine blk_drewN ?_ _ | refine blk_drew ?_ | refine blk_alloc ?_ _)); refine blk_put (cs := #[.int .i64 t283, .string (⟨#[]⟩ : ByteArray), .string (⟨#[]⟩ : ByteArray), .slice none 0 0, .int .i64 0, .int .i64 0, .int .i64 0, .slice none 0 0]) ?_ 1 _ rfl; (with_reducible repeat (first | refine blk_drewN ?_ _ | refine blk_drew ?_ | refine blk_alloc ?_ _)); refine blk_put (cs := #[.int .i64 0, .string (⟨#[]⟩ : ByteArray), .string (⟨#[]⟩ : ByteArray), .slice none 0 0, .int .i64 0, .int .i64 0, .int .i64 0, .slice none 0 0]) ?_ 0 _ rfl; (with_reducible repeat (first | refine blk_drewN ?_ _ | refine blk_drew ?_ | refine blk_alloc ?_ _)); exact BK295.out⟩
       have n4_ : Aside0 (Below w.heap.size w ((((((((w25.setCell ⟨gb295, 0, none⟩ (.int .i64 t283)).setCell ⟨gb295, 1, none⟩ (.string t284)).setCell ⟨gb295, 2, none⟩ (.string t285)).setCell ⟨gb295, 3, none⟩ (.slice Ao28 t286.length co28)).setCell ⟨gb295, 4, none⟩ (.int .i64 t289)).setCell ⟨gb295, 5, none⟩ (.int .i64 t290)).setCell ⟨gb295, 6, none⟩ (.int .i64 t291)).setCell ⟨gb295, 7, none⟩ (.slice Ao29 t292.length co29))) := ⟨hs_⟩
       (try clear HO288)
       (try clear HO294)
       (try clear BK279)
       (try clear BK295)
       (try clear HB)
       generalize ((((((((w25.setCell ⟨gb295, 0, none⟩ (.int .i64 t283)).setCell ⟨gb295, 1, none⟩ (.string t284)).setCell ⟨gb295, 2, none⟩ (.string t285)).setCell ⟨gb295, 3, none⟩ (.slice Ao28 t286.length co28)).setCell ⟨gb295, 4, none⟩ (.int .i64 t289)).setCell ⟨gb295, 5, none⟩ (.int .i64 t290)).setCell ⟨gb295, 6, none⟩ (.int .i64 t291)).setCell ⟨gb295, 7, none⟩ (.slice Ao29 t292.length co29)) = w30 at n0_ n1_ n2_ n3_ n4_ ⊢
       have HO288 := n0_
       have HO294 := n1_
       have BK279 := n2_
       have BK295 := n3_
       have HB := n4_
       clear n0_ n1_ n2_ n3_ n4_
       replace HO288 := Aside0.mk (Kd.R_drew HO288.out)
       replace HO294 := Aside0.mk (Kd.R_drew HO294.out)
       replace BK279 := Aside0.mk (blk_drew BK279.out)
       replace BK295 := Aside0.mk (blk_drew BK295.out)
       replace HB := Aside0.mk (below_drew1 HB.out)
       by_cases c18 : t296 = 0
       ·
        rw [if_pos c18] at H
        have c18b0 : (t296 == 0) = true := beq_iff_eq.mpr c18
        have c18b1 : (t296 != 0) = false := bne_eq_false_iff_eq.mpr c18
        clear c18
        replace H := Option.bind_eq_some_iff.mp H
        obtain ⟨t297, A190, H⟩ := H
        (try dsimp only at H)
        have A19 := Aside0.mk A190
        clear A190
        have c20b0 := eq_true (od_ : 0 ≤ (ji13))
        have c21b0 := eq_true (od_ : (ji13) ≤ (l0.length : Int))
        (try simp only [c18b0, c18b1])
        obtain ⟨i034, hi034, _, hsz34, _⟩ := info_parts info5
        obtain ⟨hcut34, hA34, hC34⟩ := print_take_of (P := Try.prog) (Value.int .u8) 0 24 5 .i64 Try.underlying24 hi034 hsz34 (some ad280) c0 l0 (ji13) (od_) (od_) HC0.out
        have HR300 := Aside0.mk (Kd.C_of_reads (h1 := fun _ => rfl) (hA34 _ (Kd.reads_of_C HR0.out)))
        have HC300 := Aside0.mk hC34
        clear hA34 hC34 hi034 hsz34
        refine start_ (n := 11) (S := fun w' => (convert 24 9 (.slice (some ad280) (ji13).toNat c0)).run Try.prog w' = .ok (.string (strOfNums (l0.take ((ji13) : Int).toNat))) w') (ds := []) #[false, false, false, false, false, false, false, false, false, false, false] (by kernel_rfl) rfl rfl ((Kd.C_string_n (P := Try.prog) (A := (some ad280)) (c := c0) Try.underlying24 Try.underlying5 Try.underlying9 (by repeat (first | exact (Kd.C_below HR300.out HB.out) | (with_reducible refine Kd.C_drewN ?_ _) | (with_reducible refine Kd.C_drew ?_) | (with_reducible refine Kd.C_alloc ?_ _))) _ (show (l0.take ((ji13) : Int).toNat).length = (ji13).toNat from (by rw [List.length_take]; have h_ : ((ji13) : Int) ≤ (l0.length : Int) := od_; omega)))) (fun hHeld => ?_); refine with_tabW spec_ReadOp.tab7 spec_ReadOp.bits7 (fun HT_ HW_ => ?_)
        generalize w30.drew = w31 at HO288 HO294 BK279 BK295 HB HR300 hHeld ⊢
        refine on_ (i := 0) (N := some 32) rfl rfl (one_of HT_.out (by kernel_rfl)) (by decide) (fun K hK => ?_)
        refine goes_ Try.func41 (by kernel_rfl) rfl #[.pointer (some ⟨gb295, 0, none⟩)] (by rfl) rfl rfl (by (try simp only [List.map_toArray, List.map_cons, List.map_nil]); first | done | rfl | (simp only [List.length_drop, List.length_take]; rfl)) ?_
        with_reducible refine (spec_l8Fault.calls kj6 _ ([(⟨t283, t284, t285, t286, t289, t290, t291, t292⟩ : S37)]).length [(⟨t283, t284, t285, t286, t289, t290, t291, t292⟩ : S37)] t296 _ ?side1 ?side2 A17.out).mono ?_
        (case side1 => exact Kd.C_box (blk_up BK295.out) ⟨[.int .i64 t283], [.string t284, .string t285, .slice Ao28 t286.length co28, .int .i64 t289, .int .i64 t290, .int .i64 t291, .slice Ao29 t292.length co29], rfl, rfl, ⟨[.string t284], [.string t285, .slice Ao28 t286.length co28, .int .i64 t289, .int .i64 t290, .int .i64 t291, .slice Ao29 t292.length co29], rfl, rfl, ⟨[.string t285], [.slice Ao28 t286.length co28, .int .i64 t289, .int .i64 t290, .int .i64 t291, .slice Ao29 t292.length co29], rfl, rfl, ⟨[.slice Ao28 t286.length co28], [.int .i64 t289, .int .i64 t290, .int .i64 t291, .slice Ao29 t292.length co29], rfl, ⟨_, _, rfl, (by exact (Kd.R_reads' HO288.out).2.1), (by exact C_up (Kd.R_reads' HO288.out).2.2)⟩, ⟨[.int .i64 t289], [.int .i64 t290, .int .i64 t291, .slice Ao29 t292.length co29], rfl, rfl, ⟨[.int .i64 t290], [.int .i64 t291, .slice Ao29 t292.length co29], rfl, rfl, ⟨[.int .i64 t291], [.slice Ao29 t292.length co29], rfl, rfl, ⟨_, _, rfl, (by exact (Kd.R_reads' HO294.out).2.1), (by exact C_up (Kd.R_reads' HO294.out).2.2)⟩⟩⟩⟩⟩⟩⟩⟩)
        (case side2 => exact Nat.le_refl _)
        rintro e w' ⟨rfl, ⟨nd, rfl⟩⟩
        refine ⟨_, rfl, ?_⟩
        refine hK.out _ _ ((Kd.C_string_n (P := Try.prog) (A := (some ad280)) (c := c0) Try.underlying24 Try.underlying5 Try.underlying9 (by repeat (first | exact (Kd.C_below HR300.out HB.out) | (with_reducible refine Kd.C_drewN ?_ _) | (with_reducible refine Kd.C_drew ?_) | (with_reducible refine Kd.C_alloc ?_ _))) _ (show (l0.take ((ji13) : Int).toNat).length = (ji13).toNat from (by rw [List.length_take]; have h_ : ((ji13) : Int) ≤ (l0.length : Int) := od_; omega)))) (fun hHeld => ?_)
        clear hK K
        refine norm_ (a' := ?_) ?_ ?_
        rotate_left
        · show Act.put _ (some 32) _ = _
          simp only [Act.put, List.setIfInBounds_toArray, List.set_cons_zero, List.set_cons_succ, i64_w, i32_w]
          rfl
        refine pu_ (i := 1) (N := some 33) (v := ?_) (a' := ?_) rfl rfl (any_of HT_.out (by kernel_rfl)) (fun _ _ _ h => h) (Or.inl ⟨by rfl, ?_⟩) ?_ ?_; rotate_left
        · intro w'; go_simp; all_goals (first | with_reducible rfl | (simp [Instr.field, go_sem]; rfl))
        rotate_left
        · simp only [Act.put, List.setIfInBounds_toArray, List.set_cons_zero, List.set_cons_succ, i64_w, i32_w]; rfl
        refine pu_ (i := 2) (N := some 34) (v := ?_) (a' := ?_) rfl rfl (any_of HT_.out (by kernel_rfl)) (fun _ _ _ h => h) (Or.inl ⟨by rfl, ?_⟩) ?_ ?_; rotate_left
        · intro w'; go_simp; all_goals (first | with_reducible rfl | (simp [Instr.field, go_sem]; rfl))
        rotate_left
        · simp only [Act.put, List.setIfInBounds_toArray, List.set_cons_zero, List.set_cons_succ, i64_w, i32_w]; rfl
        refine pu_ (i := 5) (N := some 37) (v := ?_) (a' := ?_) rfl rfl (any_of HT_.out (by kernel_rfl)) (fun _ _ _ h => h) (Or.inl ⟨by rfl, ?_⟩) ?_ ?_; rotate_left
        · intro w'; go_simp; all_goals (first | with_reducible rfl | (simp [Instr.field, go_sem]; rfl))
        rotate_left
        · simp only [Act.put, List.setIfInBounds_toArray, List.set_cons_zero, List.set_cons_succ, i64_w, i32_w]; rfl
        refine pu_ (i := 6) (N := some 38) (v := ?_) (a' := ?_) rfl rfl (any_of HT_.out (by kernel_rfl)) (fun _ _ _ h => h) (Or.inl ⟨by rfl, ?_⟩) ?_ ?_; rotate_left
        · intro w'; go_simp; all_goals (first | with_reducible rfl | (simp [Instr.field, go_sem]; rfl))
        rotate_left
        · simp only [Act.put, List.setIfInBounds_toArray, List.set_cons_zero, List.set_cons_succ, i64_w, i32_w]; rfl
        refine pu_ (i := 7) (N := some 39) (v := ?_) (a' := ?_) rfl rfl (any_of HT_.out (by kernel_rfl)) (fun _ _ _ h => h) (Or.inl ⟨by rfl, ?_⟩) ?_ ?_; rotate_left
        · intro w'; go_simp; all_goals (first | with_reducible rfl | (simp [Instr.field, go_sem]; rfl))
        rotate_left
        · simp only [Act.put, List.setIfInBounds_toArray, List.set_cons_zero, List.set_cons_succ, i64_w, i32_w]; rfl
        refine ta_ (i := 8) (N := some 40) (v := ?_) (a' := ?_) rfl rfl (take_ofW HT_.out HW_.out (by kernel_rfl)) (fun _ _ _ h => h) (Or.inl ⟨by rfl, ?_⟩) hHeld ?_ ?_; rotate_left
        · intro w' s0; go_simp; all_goals (first | with_reducible rfl | (simp [Instr.field, go_sem]; rfl))
        rotate_left
        · simp only [Act.put, List.setIfInBounds_toArray, List.set_cons_zero, List.set_cons_succ, i64_w, i32_w]; rfl
        refine on_ (i := 3) (N := some 35) rfl rfl (one_of HT_.out (by kernel_rfl)) (by decide) (fun K hK => ?_)
        refine goes_ Try.func42 (by kernel_rfl) rfl #[.pointer (some ⟨gb295, 0, none⟩)] (by rfl) rfl rfl (by (try simp only [List.map_toArray, List.map_cons, List.map_nil]); first | done | rfl | (simp only [List.length_drop, List.length_take]; rfl)) ?_
        with_reducible refine (spec_l9Pack.calls kj6 _ ([(⟨t283, t284, t285, t286, t289, t290, t291, t292⟩ : S37)]).length [(⟨t283, t284, t285, t286, t289, t290, t291, t292⟩ : S37)] t297 _ ?side1 ?side2 A19.out).mono ?_
        (case side1 => exact Kd.C_box (blk_up BK295.out) ⟨[.int .i64 t283], [.string t284, .string t285, .slice Ao28 t286.length co28, .int .i64 t289, .int .i64 t290, .int .i64 t291, .slice Ao29 t292.length co29], rfl, rfl, ⟨[.string t284], [.string t285, .slice Ao28 t286.length co28, .int .i64 t289, .int .i64 t290, .int .i64 t291, .slice Ao29 t292.length co29], rfl, rfl, ⟨[.string t285], [.slice Ao28 t286.length co28, .int .i64 t289, .int .i64 t290, .int .i64 t291, .slice Ao29 t292.length co29], rfl, rfl, ⟨[.slice Ao28 t286.length co28], [.int .i64 t289, .int .i64 t290, .int .i64 t291, .slice Ao29 t292.length co29], rfl, ⟨_, _, rfl, (by exact (Kd.R_reads' HO288.out).2.1), (by exact C_up (Kd.R_reads' HO288.out).2.2)⟩, ⟨[.int .i64 t289], [.int .i64 t290, .int .i64 t291, .slice Ao29 t292.length co29], rfl, rfl, ⟨[.int .i64 t290], [.int .i64 t291, .slice Ao29 t292.length co29], rfl, rfl, ⟨[.int .i64 t291], [.slice Ao29 t292.length co29], rfl, rfl, ⟨_, _, rfl, (by exact (Kd.R_reads' HO294.out).2.1), (by exact C_up (Kd.R_reads' HO294.out).2.2)⟩⟩⟩⟩⟩⟩⟩⟩)
        (case side2 => exact Nat.le_refl _)
        rintro e w32 ⟨v298, rfl, ho0, hb⟩
        refine ⟨_, rfl, ?_⟩
        have n0_ := Aside0.mk (Kd.R_below (R_up HO288.out) hb)
        have n1_ := Aside0.mk (Kd.R_elder' (R_up HO294.out) (Kd.R_base ho0) hb)
        have n2_ := Aside0.mk (Kd.R_lower (Kd.R_new' ho0 (Kd.R_lt (R_up HO294.out))) (below_size (hs_)))
        have n3_ := Aside0.mk (blk_below (g := gb279) (o := .cells #[.int .i64 0, .int .i64 0, .int .i64 0, .string (⟨#[]⟩ : ByteArray), .string (⟨#[]⟩ : ByteArray), .slice none 0 0, .int .i64 0, .int .i64 0, .int .i64 0, .slice none 0 0] 39 (0, 0)) (blk_up BK279.out) hb)
        have n4_ := Aside0.mk (blk_below (g := gb295) (blk_up BK295.out) hb)
        have n5_ := Aside0.mk (below_step (hs_) hb)
        clear HO288
        clear HO294
        clear BK279
        clear BK295
        clear HB
        have HO288 := n0_
        have HO294 := n1_
        have HO299 := n2_
        have BK279 := n3_
        have BK295 := n4_
        have HB := n5_
        clear n0_ n1_ n2_ n3_ n4_ n5_
        (try clear hb)
        (try clear hb2)
        (try clear hk)
        (try clear hi)
        (try clear ho0)
        refine hK.out _ _ ((Kd.C_string_n (P := Try.prog) (A := (some ad280)) (c := c0) Try.underlying24 Try.underlying5 Try.underlying9 (by repeat (first | exact (Kd.C_below HR300.out HB.out) | (with_reducible refine Kd.C_drewN ?_ _) | (with_reducible refine Kd.C_drew ?_) | (with_reducible refine Kd.C_alloc ?_ _))) _ (show (l0.take ((ji13) : Int).toNat).length = (ji13).toNat from (by rw [List.length_take]; have h_ : ((ji13) : Int) ≤ (l0.length : Int) := od_; omega)))) (fun hHeld => ?_)
        clear hK K
        refine norm_ (a' := ?_) ?_ ?_
        rotate_left
        · show Act.put _ (some 35) _ = _
          simp only [Act.put, List.setIfInBounds_toArray, List.set_cons_zero, List.set_cons_succ, i64_w, i32_w]
          rfl
        refine on_ (i := 4) (N := some 36) rfl rfl (one_of HT_.out (by kernel_rfl)) (by decide) (fun K hK => ?_)
        have hcv33 := own_string (P := Try.prog) Try.underlying24 Try.underlying5 Try.underlying9 (Kd.own_of_R HO299.out)
        refine value_ (w1 := ?_) (v := ?_) (by rfl) rfl ?_ ?_
        rotate_left 2
        · go_simp
          constructor
          · rfl
          · rfl
        clear hcv33
        refine hK.out _ _ ((Kd.C_string_n (P := Try.prog) (A := (some ad280)) (c := c0) Try.underlying24 Try.underlying5 Try.underlying9 (by repeat (first | exact (Kd.C_below HR300.out HB.out) | (with_reducible refine Kd.C_drewN ?_ _) | (with_reducible refine Kd.C_drew ?_) | (with_reducible refine Kd.C_alloc ?_ _))) _ (show (l0.take ((ji13) : Int).toNat).length = (ji13).toNat from (by rw [List.length_take]; have h_ : ((ji13) : Int) ≤ (l0.length : Int) := od_; omega)))) (fun hHeld => ?_)
        clear hK K
        refine norm_ (a' := ?_) ?_ ?_
        rotate_left
        · show Act.put _ (some 36) _ = _
          simp only [Act.put, List.setIfInBounds_toArray, List.set_cons_zero, List.set_cons_succ, i64_w, i32_w]
          rfl
        refine pu_ (i := 9) (N := some 41) (v := ?_) (a' := ?_) rfl rfl (any_of HT_.out (by kernel_rfl)) (fun _ _ _ h => h) (Or.inl ⟨by rfl, ?_⟩) ?_ ?_; rotate_left
        · intro w'; go_simp; all_goals (first | with_reducible rfl | (simp [Instr.field, go_sem]; rfl))
        rotate_left
        · simp only [Act.put, List.setIfInBounds_toArray, List.set_cons_zero, List.set_cons_succ, i64_w, i32_w]; rfl
        refine pu_ (i := 10) (N := some 42) (v := ?_) (a' := ?_) rfl rfl (any_of HT_.out (by kernel_rfl)) (fun _ _ _ h => h) (Or.inl ⟨by rfl, ?_⟩) ?_ ?_; rotate_left
        · intro w'; go_simp; all_goals (first | with_reducible rfl | (simp [Instr.field, go_sem]; rfl))
        rotate_left
        · simp only [Act.put, List.setIfInBounds_toArray, List.set_cons_zero, List.set_cons_succ, i64_w, i32_w]; rfl
        refine done_ (done_of HT_.out (by kernel_rfl)) ?_
        by_cases c22 : (strOfNums t297).toList = (strOfNums (l0.take ((ji13) : Int).toNat)).toList
        ·
         rw [if_pos c22] at H
         have c22b0 : ((strOfNums t297).toList == (strOfNums (l0.take ((ji13) : Int).toNat)).toList) = true := beq_iff_eq.mpr c22
         have c22b1 : ((strOfNums t297).toList != (strOfNums (l0.take ((ji13) : Int).toNat)).toList) = false := bne_eq_false_iff_eq.mpr c22
         clear c22
         simp only [Option.some.injEq, Prod.mk.injEq] at H
         obtain ⟨rfl, rfl, rfl, rfl, rfl, rfl, rfl, rfl, rfl, rfl⟩ := H
         (try simp only [c22b0, c22b1])
         obtain ⟨_, _, _, _, _, _, _, _⟩ := blk_cells8 BK295.out
         obtain ⟨_, _, _, _, _, _, _, _⟩ := blk_frozen8 BK295.out
         have hcz36_0 : w32.cell? ⟨gb279, 0, none⟩ = some (.int .i64 0) := (blk_cell BK279.out 0).trans rfl
         have hcz36_1 : w32.cell? ⟨gb279, 1, none⟩ = some (.int .i64 0) := (blk_cell BK279.out 1).trans rfl
         have hcz36_2 : w32.cell? ⟨gb279, 2, none⟩ = some (.int .i64 0) := (blk_cell BK279.out 2).trans rfl
         have hcz36_3 : w32.cell? ⟨gb279, 3, none⟩ = some (.string (⟨#[]⟩ : ByteArray)) := (blk_cell BK279.out 3).trans rfl
         have hcz36_4 : w32.cell? ⟨gb279, 4, none⟩ = some (.string (⟨#[]⟩ : ByteArray)) := (blk_cell BK279.out 4).trans rfl
         have hcz36_5 : w32.cell? ⟨gb279, 5, none⟩ = some (.slice none 0 0) := (blk_cell BK279.out 5).trans rfl
         have hcz36_6 : w32.cell? ⟨gb279, 6, none⟩ = some (.int .i64 0) := (blk_cell BK279.out 6).trans rfl
         have hcz36_7 : w32.cell? ⟨gb279, 7, none⟩ = some (.int .i64 0) := (blk_cell BK279.out 7).trans rfl
         have hcz36_8 : w32.cell? ⟨gb279, 8, none⟩ = some (.int .i64 0) := (blk_cell BK279.out 8).trans rfl
         have hcz36_9 : w32.cell? ⟨gb279, 9, none⟩ = some (.slice none 0 0) := (blk_cell BK279.out 9).trans rfl
         have hfz36_0 := blk_frozen BK279.out 0
         have hfz36_1 := blk_frozen BK279.out 1
         have hfz36_2 := blk_frozen BK279.out 2
         have hfz36_3 := blk_frozen BK279.out 3
         have hfz36_4 := blk_frozen BK279.out 4
         have hfz36_5 := blk_frozen BK279.out 5
         have hfz36_6 := blk_frozen BK279.out 6
         have hfz36_7 := blk_frozen BK279.out 7
         have hfz36_8 := blk_frozen BK279.out 8
         have hfz36_9 := blk_frozen BK279.out 9
         try go_wp2
         refine bodyPost_ret (results_cell_row rfl _ _ gb279 39 #[.int .i64 0, .int .i64 (ji13), .int .i64 t283, .string t284, .string t285, .slice Ao28 t286.length co28, .int .i64 t289, .int .i64 t290, .int .i64 t291, .slice Ao29 t292.length co29] (0, 0) _ rfl (by (with_reducible repeat (first | refine blk_drewN ?_ _ | refine blk_drew ?_ | refine blk_alloc ?_ _)); refine blk_put (cs := #[.int .i64 0, .int .i64 (ji13), .int .i64 t283, .string t284, .string t285, .slice Ao28 t286.length co28, .int .i64 t289, .int .i64 t290, .int .i64 t291, .slice none 0 0]) ?_ 9 _ rfl; (with_reducible repeat (first | refine blk_drewN ?_ _ | refine blk_drew ?_ | refine blk_alloc ?_ _)); refine blk_put (cs := #[.int .i64 0, .int .i64 (ji13), .int .i64 t283, .string t284, .string t285, .slice Ao28 t286.length co28, .int .i64 t289, .int .i64 t290, .int .i64 0, .slice none 0 0]) ?_ 8 _ rfl; (with_reducible repeat (first | refine blk_drewN ?_ _ | refine blk_drew ?_ | refine blk_alloc ?_ _)); refine blk_put (cs := #[.int .i64 0, .int .i64 (ji13), .int .i64 t283, .string t284, .string t285, .slice Ao28 t286.length co28, .int .i64 t289, .int .i64 0, .int .i64 0, .slice none 0 0]) ?_ 7 _ rfl; (with_reducible repeat (first | refine blk_drewN ?_ _ | refine blk_drew ?_ | refine blk_alloc ?_ _)); refine blk_put (cs := #[.int .i64 0, .int .i64 (ji13), .int .i64 t283, .string t284, .string t285, .slice Ao28 t286.length co28, .int .i64 0, .int .i64 0, .int .i64 0, .slice none 0 0]) ?_ 6 _ rfl; (with_reducible repeat (first | refine blk_drewN ?_ _ | refine blk_drew ?_ | refine blk_alloc ?_ _)); refine blk_put (cs := #[.int .i64 0, .int .i64 (ji13), .int .i64 t283, .string t284, .string t285, .slice none 0 0, .int .i64 0, .int .i64 0, .int .i64 0, .slice none 0 0]) ?_ 5 _ rfl; (with_reducible repeat (first | refine blk_drewN ?_ _ | refine blk_drew ?_ | refine blk_alloc ?_ _)); refine blk_put (cs := #[.int .i64 0, .int .i64 (ji13), .int .i64 t283, .string t284, .string (⟨#[]⟩ : ByteArray), .slice none 0 0, .int .i64 0, .int .i64 0, .int .i64 0, .slice none 0 0]) ?_ 4 _ rfl; (with_reducible repeat (first | refine blk_drewN ?_ _ | refine blk_drew ?_ | refine blk_alloc ?_ _)); refine blk_put (cs := #[.int .i64 0, .int .i64 (ji13), .int .i64 t283, .string (⟨#[]⟩ : ByteArray), .string (⟨#[]⟩ : ByteArray), .slice none 0 0, .int .i64 0, .int .i64 0, .int .i64 0, .slice none 0 0]) ?_ 3 _ rfl; (with_reducible repeat (first | refine blk_drewN ?_ _ | refine blk_drew ?_ | refine blk_alloc ?_ _)); refine blk_put (cs := #[.int .i64 0, .int .i64 (ji13), .int .i64 0, .string (⟨#[]⟩ : ByteArray), .string (⟨#[]⟩ : ByteArray), .slice none 0 0, .int .i64 0, .int .i64 0, .int .i64 0, .slice none 0 0]) ?_ 2 _ rfl; (with_reducible repeat (first | refine blk_drewN ?_ _ | refine blk_drew ?_ | refine blk_alloc ?_ _)); refine blk_put (cs := #[.int .i64 0, .int .i64 0, .int .i64 0, .string (⟨#[]⟩ : ByteArray), .string (⟨#[]⟩ : ByteArray), .slice none 0 0, .int .i64 0, .int .i64 0, .int .i64 0, .slice none 0 0]) ?_ 1 _ rfl; (with_reducible repeat (first | refine blk_drewN ?_ _ | refine blk_drew ?_ | refine blk_alloc ?_ _)); refine blk_put (cs := #[.int .i64 0, .int .i64 0, .int .i64 0, .string (⟨#[]⟩ : ByteArray), .string (⟨#[]⟩ : ByteArray), .slice none 0 0, .int .i64 0, .int .i64 0, .int .i64 0, .slice none 0 0]) ?_ 0 _ rfl; (with_reducible repeat (first | refine blk_drewN ?_ _ | refine blk_drew ?_ | refine blk_alloc ?_ _)); exact BK279.out) Try.underlying39 rfl (by kernel_rfl)) rfl ?_
         exact ⟨_, _, by first | rfl | (simp [errW_none, errW_some] <;> rfl) | (simp only [← hji13]; first | rfl | (simp [errW_none, errW_some] <;> rfl)) | (simp [*, errW_none, errW_some] <;> rfl), by (with_reducible repeat (first | apply Kd.R_alloc | apply Kd.R_drewN | apply Kd.R_drew)); exact Kd.R_mono (Kd.R_far (p := ⟨gb279, 9, none⟩) (Kd.R_far (p := ⟨gb279, 8, none⟩) (Kd.R_far (p := ⟨gb279, 7, none⟩) (Kd.R_far (p := ⟨gb279, 6, none⟩) (Kd.R_far (p := ⟨gb279, 5, none⟩) (Kd.R_far (p := ⟨gb279, 4, none⟩) (Kd.R_far (p := ⟨gb279, 3, none⟩) (Kd.R_far (p := ⟨gb279, 2, none⟩) (Kd.R_far (p := ⟨gb279, 1, none⟩) (Kd.R_far (p := ⟨gb279, 0, none⟩) (Kd.R_types HO288.out BK279.out (by decide)) (fun _ hk => hk.2) (.int .i64 0)) (fun _ hk => hk.2) (.int .i64 (ji13))) (fun _ hk => hk.2) (.int .i64 t283)) (fun _ hk => hk.2) (.string t284)) (fun _ hk => hk.2) (.string t285)) (fun _ hk => hk.2) (.slice Ao28 t286.length co28)) (fun _ hk => hk.2) (.int .i64 t289)) (fun _ hk => hk.2) (.int .i64 t290)) (fun _ hk => hk.2) (.int .i64 t291)) (fun _ hk => hk.2) (.slice Ao29 t292.length co29)) (fun _ hk => trivial), by (with_reducible repeat (first | apply Kd.R_alloc | apply Kd.R_drewN | apply Kd.R_drew)); exact Kd.R_mono (Kd.R_far (p := ⟨gb279, 9, none⟩) (Kd.R_far (p := ⟨gb279, 8, none⟩) (Kd.R_far (p := ⟨gb279, 7, none⟩) (Kd.R_far (p := ⟨gb279, 6, none⟩) (Kd.R_far (p := ⟨gb279, 5, none⟩) (Kd.R_far (p := ⟨gb279, 4, none⟩) (Kd.R_far (p := ⟨gb279, 3, none⟩) (Kd.R_far (p := ⟨gb279, 2, none⟩) (Kd.R_far (p := ⟨gb279, 1, none⟩) (Kd.R_far (p := ⟨gb279, 0, none⟩) (Kd.R_types HO294.out BK279.out (by decide)) (fun _ hk => hk.2) (.int .i64 0)) (fun _ hk => hk.2) (.int .i64 (ji13))) (fun _ hk => hk.2) (.int .i64 t283)) (fun _ hk => hk.2) (.string t284)) (fun _ hk => hk.2) (.string t285)) (fun _ hk => hk.2) (.slice Ao28 t286.length co28)) (fun _ hk => hk.2) (.int .i64 t289)) (fun _ hk => hk.2) (.int .i64 t290)) (fun _ hk => hk.2) (.int .i64 t291)) (fun _ hk => hk.2) (.slice Ao29 t292.length co29)) (fun _ hk => trivial), hs_⟩
        ·
         rw [if_neg c22] at H
         have c22b0 : ((strOfNums t297).toList == (strOfNums (l0.take ((ji13) : Int).toNat)).toList) = false := beq_eq_false_iff_ne.mpr c22
         have c22b1 : ((strOfNums t297).toList != (strOfNums (l0.take ((ji13) : Int).toNat)).toList) = true := bne_iff_ne.mpr c22
         simp only [Option.some.injEq, Prod.mk.injEq] at H
         obtain ⟨rfl, rfl, rfl, rfl, rfl, rfl, rfl, rfl, rfl, rfl⟩ := H
         (try simp only [c22b0, c22b1])
         have hcz49_0 : w32.cell? ⟨gb279, 0, none⟩ = some (.int .i64 0) := (blk_cell BK279.out 0).trans rfl
         have hcz49_1 : w32.cell? ⟨gb279, 1, none⟩ = some (.int .i64 0) := (blk_cell BK279.out 1).trans rfl
         have hcz49_2 : w32.cell? ⟨gb279, 2, none⟩ = some (.int .i64 0) := (blk_cell BK279.out 2).trans rfl
         have hcz49_3 : w32.cell? ⟨gb279, 3, none⟩ = some (.string (⟨#[]⟩ : ByteArray)) := (blk_cell BK279.out 3).trans rfl
         have hcz49_4 : w32.cell? ⟨gb279, 4, none⟩ = some (.string (⟨#[]⟩ : ByteArray)) := (blk_cell BK279.out 4).trans rfl
         have hcz49_5 : w32.cell? ⟨gb279, 5, none⟩ = some (.slice none 0 0) := (blk_cell BK279.out 5).trans rfl
         have hcz49_6 : w32.cell? ⟨gb279, 6, none⟩ = some (.int .i64 0) := (blk_cell BK279.out 6).trans rfl
         have hcz49_7 : w32.cell? ⟨gb279, 7, none⟩ = some (.int .i64 0) := (blk_cell BK279.out 7).trans rfl
         have hcz49_8 : w32.cell? ⟨gb279, 8, none⟩ = some (.int .i64 0) := (blk_cell BK279.out 8).trans rfl
         have hcz49_9 : w32.cell? ⟨gb279, 9, none⟩ = some (.slice none 0 0) := (blk_cell BK279.out 9).trans rfl
         have hfz49_0 := blk_frozen BK279.out 0
         have hfz49_1 := blk_frozen BK279.out 1
         have hfz49_2 := blk_frozen BK279.out 2
         have hfz49_3 := blk_frozen BK279.out 3
         have hfz49_4 := blk_frozen BK279.out 4
         have hfz49_5 := blk_frozen BK279.out 5
         have hfz49_6 := blk_frozen BK279.out 6
         have hfz49_7 := blk_frozen BK279.out 7
         have hfz49_8 := blk_frozen BK279.out 8
         have hfz49_9 := blk_frozen BK279.out 9
         try go_wp2
         refine bodyPost_ret (results_cell_row rfl _ _ gb279 39 #[.int .i64 5, .int .i64 0, .int .i64 0, .string (⟨#[]⟩ : ByteArray), .string (⟨#[]⟩ : ByteArray), .slice none 0 0, .int .i64 0, .int .i64 0, .int .i64 0, .slice none 0 0] (0, 0) _ rfl (by (with_reducible repeat (first | refine blk_drewN ?_ _ | refine blk_drew ?_ | refine blk_alloc ?_ _)); refine blk_put (cs := #[.int .i64 5, .int .i64 0, .int .i64 0, .string (⟨#[]⟩ : ByteArray), .string (⟨#[]⟩ : ByteArray), .slice none 0 0, .int .i64 0, .int .i64 0, .int .i64 0, .slice none 0 0]) ?_ 9 _ rfl; (with_reducible repeat (first | refine blk_drewN ?_ _ | refine blk_drew ?_ | refine blk_alloc ?_ _)); refine blk_put (cs := #[.int .i64 5, .int .i64 0, .int .i64 0, .string (⟨#[]⟩ : ByteArray), .string (⟨#[]⟩ : ByteArray), .slice none 0 0, .int .i64 0, .int .i64 0, .int .i64 0, .slice none 0 0]) ?_ 8 _ rfl; (with_reducible repeat (first | refine blk_drewN ?_ _ | refine blk_drew ?_ | refine blk_alloc ?_ _)); refine blk_put (cs := #[.int .i64 5, .int .i64 0, .int .i64 0, .string (⟨#[]⟩ : ByteArray), .string (⟨#[]⟩ : ByteArray), .slice none 0 0, .int .i64 0, .int .i64 0, .int .i64 0, .slice none 0 0]) ?_ 7 _ rfl; (with_reducible repeat (first | refine blk_drewN ?_ _ | refine blk_drew ?_ | refine blk_alloc ?_ _)); refine blk_put (cs := #[.int .i64 5, .int .i64 0, .int .i64 0, .string (⟨#[]⟩ : ByteArray), .string (⟨#[]⟩ : ByteArray), .slice none 0 0, .int .i64 0, .int .i64 0, .int .i64 0, .slice none 0 0]) ?_ 6 _ rfl; (with_reducible repeat (first | refine blk_drewN ?_ _ | refine blk_drew ?_ | refine blk_alloc ?_ _)); refine blk_put (cs := #[.int .i64 5, .int .i64 0, .int .i64 0, .string (⟨#[]⟩ : ByteArray), .string (⟨#[]⟩ : ByteArray), .slice none 0 0, .int .i64 0, .int .i64 0, .int .i64 0, .slice none 0 0]) ?_ 5 _ rfl; (with_reducible repeat (first | refine blk_drewN ?_ _ | refine blk_drew ?_ | refine blk_alloc ?_ _)); refine blk_put (cs := #[.int .i64 5, .int .i64 0, .int .i64 0, .string (⟨#[]⟩ : ByteArray), .string (⟨#[]⟩ : ByteArray), .slice none 0 0, .int .i64 0, .int .i64 0, .int .i64 0, .slice none 0 0]) ?_ 4 _ rfl; (with_reducible repeat (first | refine blk_drewN ?_ _ | refine blk_drew ?_ | refine blk_alloc ?_ _)); refine blk_put (cs := #[.int .i64 5, .int .i64 0, .int .i64 0, .string (⟨#[]⟩ : ByteArray), .string (⟨#[]⟩ : ByteArray), .slice none 0 0, .int .i64 0, .int .i64 0, .int .i64 0, .slice none 0 0]) ?_ 3 _ rfl; (with_reducible repeat (first | refine blk_drewN ?_ _ | refine blk_drew ?_ | refine blk_alloc ?_ _)); refine blk_put (cs := #[.int .i64 5, .int .i64 0, .int .i64 0, .string (⟨#[]⟩ : ByteArray), .string (⟨#[]⟩ : ByteArray), .slice none 0 0, .int .i64 0, .int .i64 0, .int .i64 0, .slice none 0 0]) ?_ 2 _ rfl; (with_reducible repeat (first | refine blk_drewN ?_ _ | refine blk_drew ?_ | refine blk_alloc ?_ _)); refine blk_put (cs := #[.int .i64 5, .int .i64 0, .int .i64 0, .string (⟨#[]⟩ : ByteArray), .string (⟨#[]⟩ : ByteArray), .slice none 0 0, .int .i64 0, .int .i64 0, .int .i64 0, .slice none 0 0]) ?_ 1 _ rfl; (with_reducible repeat (first | refine blk_drewN ?_ _ | refine blk_drew ?_ | refine blk_alloc ?_ _)); refine blk_put (cs := #[.int .i64 0, .int .i64 0, .int .i64 0, .string (⟨#[]⟩ : ByteArray), .string (⟨#[]⟩ : ByteArray), .slice none 0 0, .int .i64 0, .int .i64 0, .int .i64 0, .slice none 0 0]) ?_ 0 _ rfl; (with_reducible repeat (first | refine blk_drewN ?_ _ | refine blk_drew ?_ | refine blk_alloc ?_ _)); exact BK279.out) Try.underlying39 rfl (by kernel_rfl)) rfl ?_
         exact ⟨_, _, by first | rfl | (simp [errW_none, errW_some] <;> rfl) | (simp only [← hji13]; first | rfl | (simp [errW_none, errW_some] <;> rfl)) | (simp [*, errW_none, errW_some] <;> rfl), by first | exact Kd.R_nil _ _ _ _ _ | exact Kd.N_nil _ _ _ _ _ | exact Kd.V_nil _ _ _ _ _ | exact Kd.Q_nil _ _ _ _ _ | exact Kd.S_nil _ _ _ _ _, by first | exact Kd.R_nil _ _ _ _ _ | exact Kd.N_nil _ _ _ _ _ | exact Kd.V_nil _ _ _ _ _ | exact Kd.Q_nil _ _ _ _ _ | exact Kd.S_nil _ _ _ _ _, hs_⟩
       ·
        rw [if_neg c18] at H
        have c18b0 : (t296 == 0) = false := beq_eq_false_iff_ne.mpr c18
        have c18b1 : (t296 != 0) = true := bne_iff_ne.mpr c18
        simp only [Option.some.injEq, Prod.mk.injEq] at H
        obtain ⟨rfl, rfl, rfl, rfl, rfl, rfl, rfl, rfl, rfl, rfl⟩ := H
        (try simp only [c18b0, c18b1])
        refine start_ (n := 11) (S := fun w' => True) (ds := []) #[false, false, false, false, false, false, false, false, false, false, false] (by kernel_rfl) rfl rfl trivial (fun hHeld => ?_); refine with_tabW spec_ReadOp.tab7 spec_ReadOp.bits7 (fun HT_ HW_ => ?_)
        generalize w30.drew = w58 at HO288 HO294 BK279 BK295 HB hHeld ⊢
        refine on_ (i := 0) (N := some 32) rfl rfl (one_of HT_.out (by kernel_rfl)) (by decide) (fun K hK => ?_)
        refine goes_ Try.func41 (by kernel_rfl) rfl #[.pointer (some ⟨gb295, 0, none⟩)] (by rfl) rfl rfl (by (try simp only [List.map_toArray, List.map_cons, List.map_nil]); first | done | rfl | (simp only [List.length_drop, List.length_take]; rfl)) ?_
        with_reducible refine (spec_l8Fault.calls kj6 _ ([(⟨t283, t284, t285, t286, t289, t290, t291, t292⟩ : S37)]).length [(⟨t283, t284, t285, t286, t289, t290, t291, t292⟩ : S37)] t296 _ ?side1 ?side2 A17.out).mono ?_
        (case side1 => exact Kd.C_box (blk_up BK295.out) ⟨[.int .i64 t283], [.string t284, .string t285, .slice Ao28 t286.length co28, .int .i64 t289, .int .i64 t290, .int .i64 t291, .slice Ao29 t292.length co29], rfl, rfl, ⟨[.string t284], [.string t285, .slice Ao28 t286.length co28, .int .i64 t289, .int .i64 t290, .int .i64 t291, .slice Ao29 t292.length co29], rfl, rfl, ⟨[.string t285], [.slice Ao28 t286.length co28, .int .i64 t289, .int .i64 t290, .int .i64 t291, .slice Ao29 t292.length co29], rfl, rfl, ⟨[.slice Ao28 t286.length co28], [.int .i64 t289, .int .i64 t290, .int .i64 t291, .slice Ao29 t292.length co29], rfl, ⟨_, _, rfl, (by exact (Kd.R_reads' HO288.out).2.1), (by exact C_up (Kd.R_reads' HO288.out).2.2)⟩, ⟨[.int .i64 t289], [.int .i64 t290, .int .i64 t291, .slice Ao29 t292.length co29], rfl, rfl, ⟨[.int .i64 t290], [.int .i64 t291, .slice Ao29 t292.length co29], rfl, rfl, ⟨[.int .i64 t291], [.slice Ao29 t292.length co29], rfl, rfl, ⟨_, _, rfl, (by exact (Kd.R_reads' HO294.out).2.1), (by exact C_up (Kd.R_reads' HO294.out).2.2)⟩⟩⟩⟩⟩⟩⟩⟩)
        (case side2 => exact Nat.le_refl _)
        rintro e w' ⟨rfl, ⟨nd, rfl⟩⟩
        refine ⟨_, rfl, ?_⟩
        refine hK.out _ _ trivial (fun hHeld => ?_)
        clear hK K
        refine norm_ (a' := ?_) ?_ ?_
        rotate_left
        · show Act.put _ (some 32) _ = _
          simp only [Act.put, List.setIfInBounds_toArray, List.set_cons_zero, List.set_cons_succ, i64_w, i32_w]
          rfl
        refine pu_ (i := 1) (N := some 33) (v := ?_) (a' := ?_) rfl rfl (any_of HT_.out (by kernel_rfl)) (fun _ _ _ h => h) (Or.inl ⟨by rfl, ?_⟩) ?_ ?_; rotate_left
        · intro w'; go_simp; all_goals (first | with_reducible rfl | (simp [Instr.field, go_sem]; rfl))
        rotate_left
        · simp only [Act.put, List.setIfInBounds_toArray, List.set_cons_zero, List.set_cons_succ, i64_w, i32_w]; rfl
        refine pu_ (i := 2) (N := some 34) (v := ?_) (a' := ?_) rfl rfl (any_of HT_.out (by kernel_rfl)) (fun _ _ _ h => h) (Or.inl ⟨by rfl, ?_⟩) ?_ ?_; rotate_left
        · intro w'; go_simp; all_goals (first | with_reducible rfl | (simp [Instr.field, go_sem]; rfl))
        rotate_left
        · simp only [Act.put, List.setIfInBounds_toArray, List.set_cons_zero, List.set_cons_succ, i64_w, i32_w]; rfl
        refine pu_ (i := 3) (N := some 35) (v := undef) (a' := ?_) rfl rfl (any_of HT_.out (by kernel_rfl)) (fun _ _ _ h => h) (Or.inr ⟨by rfl, rfl⟩) ?_ ?_; rotate_left
        · simp only [Act.put, List.setIfInBounds_toArray, List.set_cons_zero, List.set_cons_succ, i64_w, i32_w]; rfl
        refine pu_ (i := 4) (N := some 36) (v := undef) (a' := ?_) rfl rfl (any_of HT_.out (by kernel_rfl)) (fun _ _ _ h => h) (Or.inr ⟨by rfl, rfl⟩) ?_ ?_; rotate_left
        · simp only [Act.put, List.setIfInBounds_toArray, List.set_cons_zero, List.set_cons_succ, i64_w, i32_w]; rfl
        refine pu_ (i := 5) (N := some 37) (v := undef) (a' := ?_) rfl rfl (any_of HT_.out (by kernel_rfl)) (fun _ _ _ h => h) (Or.inr ⟨by rfl, rfl⟩) ?_ ?_; rotate_left
        · simp only [Act.put, List.setIfInBounds_toArray, List.set_cons_zero, List.set_cons_succ, i64_w, i32_w]; rfl
        refine pu_ (i := 6) (N := some 38) (v := undef) (a' := ?_) rfl rfl (any_of HT_.out (by kernel_rfl)) (fun _ _ _ h => h) (Or.inr ⟨by rfl, rfl⟩) ?_ ?_; rotate_left
        · simp only [Act.put, List.setIfInBounds_toArray, List.set_cons_zero, List.set_cons_succ, i64_w, i32_w]; rfl
        refine pu_ (i := 7) (N := some 39) (v := undef) (a' := ?_) rfl rfl (any_of HT_.out (by kernel_rfl)) (fun _ _ _ h => h) (Or.inr ⟨by rfl, rfl⟩) ?_ ?_; rotate_left
        · simp only [Act.put, List.setIfInBounds_toArray, List.set_cons_zero, List.set_cons_succ, i64_w, i32_w]; rfl
        refine pu_ (i := 8) (N := some 40) (v := undef) (a' := ?_) rfl rfl (any_of HT_.out (by kernel_rfl)) (fun _ _ _ h => h) (Or.inr ⟨by rfl, rfl⟩) ?_ ?_; rotate_left
        · simp only [Act.put, List.setIfInBounds_toArray, List.set_cons_zero, List.set_cons_succ, i64_w, i32_w]; rfl
        refine pu_ (i := 9) (N := some 41) (v := undef) (a' := ?_) rfl rfl (any_of HT_.out (by kernel_rfl)) (fun _ _ _ h => h) (Or.inr ⟨by rfl, rfl⟩) ?_ ?_; rotate_left
        · simp only [Act.put, List.setIfInBounds_toArray, List.set_cons_zero, List.set_cons_succ, i64_w, i32_w]; rfl
        refine pu_ (i := 10) (N := some 42) (v := ?_) (a' := ?_) rfl rfl (any_of HT_.out (by kernel_rfl)) (fun _ _ _ h => h) (Or.inl ⟨by rfl, ?_⟩) ?_ ?_; rotate_left
        · intro w'; go_simp; all_goals (first | with_reducible rfl | (simp [Instr.field, go_sem]; rfl))
        rotate_left
        · simp only [Act.put, List.setIfInBounds_toArray, List.set_cons_zero, List.set_cons_succ, i64_w, i32_w]; rfl
        refine done_ (done_of HT_.out (by kernel_rfl)) ?_
        have hcz59_0 : w58.cell? ⟨gb279, 0, none⟩ = some (.int .i64 0) := (blk_cell BK279.out 0).trans rfl
        have hcz59_1 : w58.cell? ⟨gb279, 1, none⟩ = some (.int .i64 0) := (blk_cell BK279.out 1).trans rfl
        have hcz59_2 : w58.cell? ⟨gb279, 2, none⟩ = some (.int .i64 0) := (blk_cell BK279.out 2).trans rfl
        have hcz59_3 : w58.cell? ⟨gb279, 3, none⟩ = some (.string (⟨#[]⟩ : ByteArray)) := (blk_cell BK279.out 3).trans rfl
        have hcz59_4 : w58.cell? ⟨gb279, 4, none⟩ = some (.string (⟨#[]⟩ : ByteArray)) := (blk_cell BK279.out 4).trans rfl
        have hcz59_5 : w58.cell? ⟨gb279, 5, none⟩ = some (.slice none 0 0) := (blk_cell BK279.out 5).trans rfl
        have hcz59_6 : w58.cell? ⟨gb279, 6, none⟩ = some (.int .i64 0) := (blk_cell BK279.out 6).trans rfl
        have hcz59_7 : w58.cell? ⟨gb279, 7, none⟩ = some (.int .i64 0) := (blk_cell BK279.out 7).trans rfl
        have hcz59_8 : w58.cell? ⟨gb279, 8, none⟩ = some (.int .i64 0) := (blk_cell BK279.out 8).trans rfl
        have hcz59_9 : w58.cell? ⟨gb279, 9, none⟩ = some (.slice none 0 0) := (blk_cell BK279.out 9).trans rfl
        have hfz59_0 := blk_frozen BK279.out 0
        have hfz59_1 := blk_frozen BK279.out 1
        have hfz59_2 := blk_frozen BK279.out 2
        have hfz59_3 := blk_frozen BK279.out 3
        have hfz59_4 := blk_frozen BK279.out 4
        have hfz59_5 := blk_frozen BK279.out 5
        have hfz59_6 := blk_frozen BK279.out 6
        have hfz59_7 := blk_frozen BK279.out 7
        have hfz59_8 := blk_frozen BK279.out 8
        have hfz59_9 := blk_frozen BK279.out 9
        try go_wp2
        refine bodyPost_ret (results_cell_row rfl _ _ gb279 39 #[.int .i64 5, .int .i64 0, .int .i64 0, .string (⟨#[]⟩ : ByteArray), .string (⟨#[]⟩ : ByteArray), .slice none 0 0, .int .i64 0, .int .i64 0, .int .i64 0, .slice none 0 0] (0, 0) _ rfl (by (with_reducible repeat (first | refine blk_drewN ?_ _ | refine blk_drew ?_ | refine blk_alloc ?_ _)); refine blk_put (cs := #[.int .i64 5, .int .i64 0, .int .i64 0, .string (⟨#[]⟩ : ByteArray), .string (⟨#[]⟩ : ByteArray), .slice none 0 0, .int .i64 0, .int .i64 0, .int .i64 0, .slice none 0 0]) ?_ 9 _ rfl; (with_reducible repeat (first | refine blk_drewN ?_ _ | refine blk_drew ?_ | refine blk_alloc ?_ _)); refine blk_put (cs := #[.int .i64 5, .int .i64 0, .int .i64 0, .string (⟨#[]⟩ : ByteArray), .string (⟨#[]⟩ : ByteArray), .slice none 0 0, .int .i64 0, .int .i64 0, .int .i64 0, .slice none 0 0]) ?_ 8 _ rfl; (with_reducible repeat (first | refine blk_drewN ?_ _ | refine blk_drew ?_ | refine blk_alloc ?_ _)); refine blk_put (cs := #[.int .i64 5, .int .i64 0, .int .i64 0, .string (⟨#[]⟩ : ByteArray), .string (⟨#[]⟩ : ByteArray), .slice none 0 0, .int .i64 0, .int .i64 0, .int .i64 0, .slice none 0 0]) ?_ 7 _ rfl; (with_reducible repeat (first | refine blk_drewN ?_ _ | refine blk_drew ?_ | refine blk_alloc ?_ _)); refine blk_put (cs := #[.int .i64 5, .int .i64 0, .int .i64 0, .string (⟨#[]⟩ : ByteArray), .string (⟨#[]⟩ : ByteArray), .slice none 0 0, .int .i64 0, .int .i64 0, .int .i64 0, .slice none 0 0]) ?_ 6 _ rfl; (with_reducible repeat (first | refine blk_drewN ?_ _ | refine blk_drew ?_ | refine blk_alloc ?_ _)); refine blk_put (cs := #[.int .i64 5, .int .i64 0, .int .i64 0, .string (⟨#[]⟩ : ByteArray), .string (⟨#[]⟩ : ByteArray), .slice none 0 0, .int .i64 0, .int .i64 0, .int .i64 0, .slice none 0 0]) ?_ 5 _ rfl; (with_reducible repeat (first | refine blk_drewN ?_ _ | refine blk_drew ?_ | refine blk_alloc ?_ _)); refine blk_put (cs := #[.int .i64 5, .int .i64 0, .int .i64 0, .string (⟨#[]⟩ : ByteArray), .string (⟨#[]⟩ : ByteArray), .slice none 0 0, .int .i64 0, .int .i64 0, .int .i64 0, .slice none 0 0]) ?_ 4 _ rfl; (with_reducible repeat (first | refine blk_drewN ?_ _ | refine blk_drew ?_ | refine blk_alloc ?_ _)); refine blk_put (cs := #[.int .i64 5, .int .i64 0, .int .i64 0, .string (⟨#[]⟩ : ByteArray), .string (⟨#[]⟩ : ByteArray), .slice none 0 0, .int .i64 0, .int .i64 0, .int .i64 0, .slice none 0 0]) ?_ 3 _ rfl; (with_reducible repeat (first | refine blk_drewN ?_ _ | refine blk_drew ?_ | refine blk_alloc ?_ _)); refine blk_put (cs := #[.int .i64 5, .int .i64 0, .int .i64 0, .string (⟨#[]⟩ : ByteArray), .string (⟨#[]⟩ : ByteArray), .slice none 0 0, .int .i64 0, .int .i64 0, .int .i64 0, .slice none 0 0]) ?_ 2 _ rfl; (with_reducible repeat (first | refine blk_drewN ?_ _ | refine blk_drew ?_ | refine blk_alloc ?_ _)); refine blk_put (cs := #[.int .i64 5, .int .i64 0, .int .i64 0, .string (⟨#[]⟩ : ByteArray), .string (⟨#[]⟩ : ByteArray), .slice none 0 0, .int .i64 0, .int .i64 0, .int .i64 0, .slice none 0 0]) ?_ 1 _ rfl; (with_reducible repeat (first | refine blk_drewN ?_ _ | refine blk_drew ?_ | refine blk_alloc ?_ _)); refine blk_put (cs := #[.int .i64 0, .int .i64 0, .int .i64 0, .string (⟨#[]⟩ : ByteArray), .string (⟨#[]⟩ : ByteArray), .slice none 0 0, .int .i64 0, .int .i64 0, .int .i64 0, .slice none 0 0]) ?_ 0 _ rfl; (with_reducible repeat (first | refine blk_drewN ?_ _ | refine blk_drew ?_ | refine blk_alloc ?_ _)); exact BK279.out) Try.underlying39 rfl (by kernel_rfl)) rfl ?_
        exact ⟨_, _, by first | rfl | (simp [errW_none, errW_some] <;> rfl) | (simp only [← hji13]; first | rfl | (simp [errW_none, errW_some] <;> rfl)) | (simp [*, errW_none, errW_some] <;> rfl), by first | exact Kd.R_nil _ _ _ _ _ | exact Kd.N_nil _ _ _ _ _ | exact Kd.V_nil _ _ _ _ _ | exact Kd.Q_nil _ _ _ _ _ | exact Kd.S_nil _ _ _ _ _, by first | exact Kd.R_nil _ _ _ _ _ | exact Kd.N_nil _ _ _ _ _ | exact Kd.V_nil _ _ _ _ _ | exact Kd.Q_nil _ _ _ _ _ | exact Kd.S_nil _ _ _ _ _, hs_⟩
  · rw [if_neg c5] at H
    exact absurd H (by simp)

/-! ### spec_l9Journal: function 54 -/
def spec_l9Journal.l0 : Nat → List Int → List (S37) → Int → Option ((List (S37)) × Int)
 | 0, _, _, _ => none
 | k + 1, x0, x4, x5 => if x5 < (x0.length : Int) then (if 0 ≤ x5 then (if x5 ≤ (x0.length : Int) then ((spec_ReadOp.f k (x0.drop (x5 : Int).toNat)).bind fun bt305 => (if bt305.1 = 0 then (if x4.length < 1256584717458 then (spec_l9Journal.l0 k x0 (x4 ++ [(⟨bt305.2.2.1, bt305.2.2.2.1, bt305.2.2.2.2.1, bt305.2.2.2.2.2.1, bt305.2.2.2.2.2.2.1, bt305.2.2.2.2.2.2.2.1, bt305.2.2.2.2.2.2.2.2.1, bt305.2.2.2.2.2.2.2.2.2⟩ : S37)]) (wrap64 (x5 + bt305.2.1))) else (none)) else (some (x4, x5)))) else (none)) else (none)) else (some (x4, x5))
def spec_l9Journal.f (k : Nat) (l0 : List Int) : Option ((List (S37)) × Int) := spec_l9Journal.l0 k l0 (([] : List (S37))) 0
set_option maxHeartbeats 8000000 in
set_option maxRecDepth 100000 in
theorem spec_l9Journal.calls (k : Nat) (A0 : Option Addr) (c0 : Nat) (l0 : List Int) (r1 : List (S37)) (r2 : Int) (w : World) (hr0 : Kd.C (Kd.int .u8) w A0 l0.length l0) (hc0 : l0.length ≤ c0) (h : spec_l9Journal.f k l0 = some (r1, r2)) :
 Calls Try.prog 54 #[.slice A0 l0.length c0] w fun e w' => ∃ v0_ : Value, e = .returned (.tuple #[v0_, .int .i64 r2]) ∧ Kd.S k37 37 w' w.heap.size (fun _ => True) v0_ r1 ∧ Below w.heap.size w w' := by
 have hu39 := Try.underlying39
 have hu37 := Try.underlying37
 have HR0 := Aside0.mk hr0
 have HC0 := Aside0.mk hc0
 clear hr0 hc0
 have HB := Aside0.mk (Below.refl w.heap.size w)
 have H : (spec_l9Journal.l0 k l0 (([] : List (S37))) 0) = some (r1, r2) := h
 clear h
 obtain ⟨y301, hy301⟩ : ∃ y_ : List (S37), y_ = (([] : List (S37))) := ⟨_, rfl⟩
 replace H : (spec_l9Journal.l0 k l0 y301 0) = some (r1, r2) := by first | (rw [hy301]; with_reducible exact H) | (have H2_ := (Option.bind_some _ _).symm.trans H; rw [hy301]; with_reducible exact H2_) | (have H2_ := (Option.bind_some _ _).symm.trans H; with_reducible exact H2_) | with_reducible exact H | (rw [hy301]; exact H) | exact H
 have Ny301 := Aside0.mk hy301
 clear hy301
 have H' := Aside0.mk H
 clear H
 go_enter Try.func54, Try.ntmps54
 go_wp2_with (first | ((with_reducible refine gate_dst (N := 7) rfl ?_); refine Kd.S_lit k37 _ 37 ?hg (N := 7) ?hd (xs := ([] : List (S37))) (inner := []) (ok := fun _ => True) (okp := fun _ => True) ?hr ?hp (fun _ hk => hk) trivial (Below.refl _ _) (Nat.le_refl _) (by simp) ?_; (case hd => rfl); (case hg => rfl); (case hr => first | (go_simp; done) | (go_simp; rfl)); (case hp => exact (Reps.none _ _)); intro v302 w2 ho3 hb hg_ hnew_; clear hg_ hnew_; (first | rw [← Ny301.out] at ho3 | (simp only [Int.reduceToNat] at ho3; rw [← Ny301.out] at ho3)); have HO303 := Aside0.mk (Kd.S_lower ho3 (below_size (hb_))); replace HB := Aside0.mk (below_step (hb_) hb); clear hb ho3))
 go_loopg [4, 5] k (fun kq v4 v5 w' => ∃ (x4_1 : List (S37)) (x5_1 : Int), v5 = .int .i64 x5_1 ∧ Aside0 (spec_l9Journal.l0 kq l0 x4_1 x5_1 = some (r1, r2)) ∧ Aside0 (kq ≤ k) ∧ Aside0 (Kd.S k37 37 w' w.heap.size (fun _ => True) v4 x4_1) ∧ Aside0 (Below w.heap.size w w'))
 case atStart => exact ⟨(y301), (0), vl_, H', ⟨Nat.le_refl _⟩, ⟨S_up HO303.out⟩, ⟨hb_⟩⟩
 case round =>
  clear H'
  obtain ⟨x4_1, x5_1, rfl, HA, HK1, HO_4, HB⟩ := hrel
  cases gk with
  | zero => exact absurd HA.out (by simp [spec_l9Journal.l0])
  | succ k1 =>
    have H := HA.out
    clear HA
    simp only [spec_l9Journal.l0] at H
    by_cases c4 : x5_1 < (l0.length : Int)
    ·
     rw [if_pos c4] at H
     have c4b0 : decide (x5_1 < (l0.length : Int)) = true := decide_eq_true c4
     clear c4
     by_cases c5 : 0 ≤ x5_1
     case neg => rw [if_neg c5] at H; exact absurd H (by simp)
     rw [if_pos c5] at H
     have c5b0 := eq_true c5
     have c5b1 : decide (0 ≤ x5_1) = true := decide_eq_true c5
     clear c5
     by_cases c6 : x5_1 ≤ (l0.length : Int)
     case neg => rw [if_neg c6] at H; exact absurd H (by simp)
     rw [if_pos c6] at H
     have c6b0 := eq_true c6
     have c6b1 : decide (x5_1 ≤ (l0.length : Int)) = true := decide_eq_true c6
     clear c6
     replace H := Option.bind_eq_some_iff.mp H
     obtain ⟨⟨t305, t306, t307, t308, t309, t310, t313, t314, t315, t316⟩, A70, H⟩ := H
     (try dsimp only at H)
     have A7 := Aside0.mk A70
     clear A70
     by_cases c8 : t305 = 0
     ·
      rw [if_pos c8] at H
      have c8b0 : (t305 == 0) = true := beq_iff_eq.mpr c8
      have c8b1 : (t305 != 0) = false := bne_eq_false_iff_eq.mpr c8
      clear c8
      by_cases c9 : x4_1.length < 1256584717458
      case neg => rw [if_neg c9] at H; exact absurd H (by simp)
      rw [if_pos c9] at H
      have LMc9 := Aside0.mk c9
      clear c9
      obtain ⟨y320, hy320⟩ : ∃ y_ : List (S37), y_ = (x4_1 ++ [(⟨t307, t308, t309, t310, t313, t314, t315, t316⟩ : S37)]) := ⟨_, rfl⟩
      replace H : (spec_l9Journal.l0 k1 l0 y320 (wrap64 (x5_1 + t306))) = some (r1, r2) := by first | (rw [hy320]; with_reducible exact H) | (have H2_ := (Option.bind_some _ _).symm.trans H; rw [hy320]; with_reducible exact H2_) | (have H2_ := (Option.bind_some _ _).symm.trans H; with_reducible exact H2_) | with_reducible exact H | (rw [hy320]; exact H) | exact H
      have Ny320 := Aside0.mk hy320
      clear hy320
      have H' := Aside0.mk H
      clear H
      obtain ⟨i010, hi010, _, hsz10, _⟩ := info_parts info5
      obtain ⟨A10, hcut10, hA10, hC10⟩ := print_drop_of (P := Try.prog) (Value.int .u8) 0 24 5 .i64 Try.underlying24 hi010 hsz10 A0 c0 l0 x5_1 (od_) (od_) HC0.out
      have HR304 := Aside0.mk (Kd.C_of_reads (h1 := fun _ => rfl) (hA10 _ (Kd.reads_of_C HR0.out)))
      have HC304 := Aside0.mk hC10
      clear hA10 hC10 hi010 hsz10
      go_wp2_with (first | ((with_reducible refine gate_callee (f := 17) rfl ?_); refine goesL_ (some 15) rfl rfl Try.func17 (by kernel_rfl) rfl #[.slice A10 (l0.drop (x5_1 : Int).toNat).length (c0 - x5_1.toNat)] rfl (by (try simp only [List.map_toArray, List.map_cons, List.map_nil]); first | done | (rw [show (l0.drop (x5_1 : Int).toNat).length = (l0.length - x5_1.toNat) from List.length_drop] <;> rfl) | rfl | (simp only [List.length_drop, List.length_take]; rfl)) ?_; (with_reducible refine (spec_ReadOp.calls k1 _ _ (l0.drop (x5_1 : Int).toNat) t305 t306 t307 t308 t309 t310 t313 t314 t315 t316 _ ?_ ?_ A7.out).mono ?_); exact C_up (Kd.C_below HR304.out HB.out); exact HC304.out; rintro e w11 ⟨v311, v317, rfl, ho0, ho1, hb⟩; refine ⟨_, rfl, ?_⟩; replace HO_4 := Aside0.mk (Kd.S_mono (Kd.S_told (Kd.S_told (Kd.S_old (S_up HO_4.out) hb) (Kd.R_base ho0)) (Kd.R_base ho1)) (fun _ h_ => h_.1)); have HO312 := Aside0.mk (Kd.R_lower ho0 (below_size (hb_))); have HO318 := Aside0.mk (Kd.R_lower ho1 (below_size (hb_))); replace HB := Aside0.mk (below_step (hb_) hb); (try clear hb); (try clear ho0); (try clear ho1)) | ((with_reducible refine gate_dst (N := 6) rfl ?_); refine box_event ?hg (N := 6) ?hd (cs := #[.int .i64 0, .int .i64 0, .int .i64 0, .string (⟨#[]⟩ : ByteArray), .string (⟨#[]⟩ : ByteArray), .slice none 0 0, .int .i64 0, .int .i64 0, .int .i64 0, .slice none 0 0]) (t := 39) ?hr ?_; (case hd => rfl); (case hg => rfl); (case hr => first | (go_simp; done) | (go_simp; rfl)); intro gb319 hg w12 hbox hb; have n0_ := Aside0.mk (Kd.S_below (S_up HO_4.out) hb); have n1_ := Aside0.mk (Kd.R_below (R_up HO312.out) hb); have n2_ := Aside0.mk (Kd.R_below (R_up HO318.out) hb); have n3_ := Aside0.mk (below_step (hb_) hb); have n4_ := Aside0.mk (hbox); have n5_ := Aside0.mk ((by rw [hg]; exact (below_size (hb_)) : w.heap.size ≤ gb319)); have n6_ := Aside0.mk ((by rw [hg]; exact (below_size (hb_)) : w.heap.size ≤ gb319)); clear HO_4; clear HO312; clear HO318; clear HB; have HO_4 := n0_; have HO312 := n1_; have HO318 := n2_; have HB := n3_; have BK319 := n4_; have GW319 := n5_; have GE319 := n6_; clear n0_ n1_ n2_ n3_ n4_ n5_ n6_; clear hb hbox hg; have hcz13_0 : w12.cell? ⟨gb319, 0, none⟩ = some (.int .i64 0) := (blk_cell BK319.out 0).trans rfl; have hcz13_1 : w12.cell? ⟨gb319, 1, none⟩ = some (.int .i64 0) := (blk_cell BK319.out 1).trans rfl; have hcz13_2 : w12.cell? ⟨gb319, 2, none⟩ = some (.int .i64 0) := (blk_cell BK319.out 2).trans rfl; have hcz13_3 : w12.cell? ⟨gb319, 3, none⟩ = some (.string (⟨#[]⟩ : ByteArray)) := (blk_cell BK319.out 3).trans rfl; have hcz13_4 : w12.cell? ⟨gb319, 4, none⟩ = some (.string (⟨#[]⟩ : ByteArray)) := (blk_cell BK319.out 4).trans rfl; have hcz13_5 : w12.cell? ⟨gb319, 5, none⟩ = some (.slice none 0 0) := (blk_cell BK319.out 5).trans rfl; have hcz13_6 : w12.cell? ⟨gb319, 6, none⟩ = some (.int .i64 0) := (blk_cell BK319.out 6).trans rfl; have hcz13_7 : w12.cell? ⟨gb319, 7, none⟩ = some (.int .i64 0) := (blk_cell BK319.out 7).trans rfl; have hcz13_8 : w12.cell? ⟨gb319, 8, none⟩ = some (.int .i64 0) := (blk_cell BK319.out 8).trans rfl; have hcz13_9 : w12.cell? ⟨gb319, 9, none⟩ = some (.slice none 0 0) := (blk_cell BK319.out 9).trans rfl; have hfz13_0 := blk_frozen BK319.out 0; have hfz13_1 := blk_frozen BK319.out 1; have hfz13_2 := blk_frozen BK319.out 2; have hfz13_3 := blk_frozen BK319.out 3; have hfz13_4 := blk_frozen BK319.out 4; have hfz13_5 := blk_frozen BK319.out 5; have hfz13_6 := blk_frozen BK319.out 6; have hfz13_7 := blk_frozen BK319.out 7; have hfz13_8 := blk_frozen BK319.out 8; have hfz13_9 := blk_frozen BK319.out 9; obtain ⟨Ao14, co14, eo14⟩ := Kd.R_slice HO312.out; subst eo14; obtain ⟨Ao15, co15, eo15⟩ := Kd.R_slice HO318.out; subst eo15) | ((with_reducible refine gate_store (t := 39) (p := 6) rfl ?_); refine store_event (t := 39) (p := 6) (v := ?vo_w16) (w1 := ((((((((((w12.setCell ⟨gb319, 0, none⟩ (.int .i64 t305)).setCell ⟨gb319, 1, none⟩ (.int .i64 t306)).setCell ⟨gb319, 2, none⟩ (.int .i64 t307)).setCell ⟨gb319, 3, none⟩ (.string t308)).setCell ⟨gb319, 4, none⟩ (.string t309)).setCell ⟨gb319, 5, none⟩ (.slice Ao14 t310.length co14)).setCell ⟨gb319, 6, none⟩ (.int .i64 t313)).setCell ⟨gb319, 7, none⟩ (.int .i64 t314)).setCell ⟨gb319, 8, none⟩ (.int .i64 t315)).setCell ⟨gb319, 9, none⟩ (.slice Ao15 t316.length co15))) ?hg ?ho ?hn ?hr ?_; (case ho => rfl); (case hg => rfl); (case hn => rfl); (case hr => first | (go_simp; done) | (go_simp; rfl)); intro w16 hw; have n0_ : Aside0 (Kd.S k37 37 w16 w.heap.size (fun k_ => some k_ ≠ (.slice Ao14 t310.length co14 : Value).ownBlock ∧ some k_ ≠ (.slice Ao15 t316.length co15 : Value).ownBlock) u4 x4_1) := ⟨(by rw [hw]; exact (by (with_reducible repeat (first | apply Kd.S_alloc | apply Kd.S_drewN | apply Kd.S_drew)); exact Kd.S_mono (Kd.S_far (p := ⟨gb319, 9, none⟩) (Kd.S_far (p := ⟨gb319, 8, none⟩) (Kd.S_far (p := ⟨gb319, 7, none⟩) (Kd.S_far (p := ⟨gb319, 6, none⟩) (Kd.S_far (p := ⟨gb319, 5, none⟩) (Kd.S_far (p := ⟨gb319, 4, none⟩) (Kd.S_far (p := ⟨gb319, 3, none⟩) (Kd.S_far (p := ⟨gb319, 2, none⟩) (Kd.S_far (p := ⟨gb319, 1, none⟩) (Kd.S_far (p := ⟨gb319, 0, none⟩) (Kd.S_types HO_4.out BK319.out (by decide)) (fun _ hk => hk.2) (.int .i64 t305)) (fun _ hk => hk.2) (.int .i64 t306)) (fun _ hk => hk.2) (.int .i64 t307)) (fun _ hk => hk.2) (.string t308)) (fun _ hk => hk.2) (.string t309)) (fun _ hk => hk.2) (.slice Ao14 t310.length co14)) (fun _ hk => hk.2) (.int .i64 t313)) (fun _ hk => hk.2) (.int .i64 t314)) (fun _ hk => hk.2) (.int .i64 t315)) (fun _ hk => hk.2) (.slice Ao15 t316.length co15)) (fun _ hk => ⟨hk.1.1.2, hk.1.2⟩)))⟩; have n1_ : Aside0 (Kd.R (Kd.int .i64) 2 w16 w.heap.size (fun _ => True) (.slice Ao14 t310.length co14) t310) := ⟨(by rw [hw]; exact (by (with_reducible repeat (first | apply Kd.R_alloc | apply Kd.R_drewN | apply Kd.R_drew)); exact Kd.R_mono (Kd.R_far (p := ⟨gb319, 9, none⟩) (Kd.R_far (p := ⟨gb319, 8, none⟩) (Kd.R_far (p := ⟨gb319, 7, none⟩) (Kd.R_far (p := ⟨gb319, 6, none⟩) (Kd.R_far (p := ⟨gb319, 5, none⟩) (Kd.R_far (p := ⟨gb319, 4, none⟩) (Kd.R_far (p := ⟨gb319, 3, none⟩) (Kd.R_far (p := ⟨gb319, 2, none⟩) (Kd.R_far (p := ⟨gb319, 1, none⟩) (Kd.R_far (p := ⟨gb319, 0, none⟩) (Kd.R_types HO312.out BK319.out (by decide)) (fun _ hk => hk.2) (.int .i64 t305)) (fun _ hk => hk.2) (.int .i64 t306)) (fun _ hk => hk.2) (.int .i64 t307)) (fun _ hk => hk.2) (.string t308)) (fun _ hk => hk.2) (.string t309)) (fun _ hk => hk.2) (.slice Ao14 t310.length co14)) (fun _ hk => hk.2) (.int .i64 t313)) (fun _ hk => hk.2) (.int .i64 t314)) (fun _ hk => hk.2) (.int .i64 t315)) (fun _ hk => hk.2) (.slice Ao15 t316.length co15)) (fun _ hk => trivial)))⟩; have n2_ : Aside0 (Kd.R (Kd.int .u8) 5 w16 w.heap.size (fun _ => True) (.slice Ao15 t316.length co15) t316) := ⟨(by rw [hw]; exact (by (with_reducible repeat (first | apply Kd.R_alloc | apply Kd.R_drewN | apply Kd.R_drew)); exact Kd.R_mono (Kd.R_far (p := ⟨gb319, 9, none⟩) (Kd.R_far (p := ⟨gb319, 8, none⟩) (Kd.R_far (p := ⟨gb319, 7, none⟩) (Kd.R_far (p := ⟨gb319, 6, none⟩) (Kd.R_far (p := ⟨gb319, 5, none⟩) (Kd.R_far (p := ⟨gb319, 4, none⟩) (Kd.R_far (p := ⟨gb319, 3, none⟩) (Kd.R_far (p := ⟨gb319, 2, none⟩) (Kd.R_far (p := ⟨gb319, 1, none⟩) (Kd.R_far (p := ⟨gb319, 0, none⟩) (Kd.R_types HO318.out BK319.out (by decide)) (fun _ hk => hk.2) (.int .i64 t305)) (fun _ hk => hk.2) (.int .i64 t306)) (fun _ hk => hk.2) (.int .i64 t307)) (fun _ hk => hk.2) (.string t308)) (fun _ hk => hk.2) (.string t309)) (fun _ hk => hk.2) (.slice Ao14 t310.length co14)) (fun _ hk => hk.2) (.int .i64 t313)) (fun _ hk => hk.2) (.int .i64 t314)) (fun _ hk => hk.2) (.int .i64 t315)) (fun _ hk => hk.2) (.slice Ao15 t316.length co15)) (fun _ hk => trivial)))⟩; have n3_ : Aside0 (w16.heap[gb319]? = some (.cells #[.int .i64 t305, .int .i64 t306, .int .i64 t307, .string t308, .string t309, .slice Ao14 t310.length co14, .int .i64 t313, .int .i64 t314, .int .i64 t315, .slice Ao15 t316.length co15] 39 (0, 0))) := ⟨(by rw [hw]; exact (by (with_reducible repeat (first | refine blk_drewN ?_ _ | refine blk_drew ?_ | refine blk_alloc ?_ _)); refine blk_put (cs := #[.int .i64 t305, .int .i64 t306, .int .i64 t307, .string t308, .string t309, .slice Ao14 t310.length co14, .int .i64 t313, .int .i64 t314, .int .i64 t315, .slice none 0 0]) ?_ 9 _ rfl; (with_reducible repeat (first | refine blk_drewN ?_ _ | refine blk_drew ?_ | refine blk_alloc ?_ _)); refine blk_put (cs := #[.int .i64 t305, .int .i64 t306, .int .i64 t307, .string t308, .string t309, .slice Ao14 t310.length co14, .int .i64 t313, .int .i64 t314, .int .i64 0, .slice none 0 0]) ?_ 8 _ rfl; (with_reducible repeat (first | refine blk_drewN ?_ _ | refine blk_drew ?_ | refine blk_alloc ?_ _)); refine blk_put (cs := #[.int .i64 t305, .int .i64 t306, .int .i64 t307, .string t308, .string t309, .slice Ao14 t310.length co14, .int .i64 t313, .int .i64 0, .int .i64 0, .slice none 0 0]) ?_ 7 _ rfl; (with_reducible repeat (first | refine blk_drewN ?_ _ | refine blk_drew ?_ | refine blk_alloc ?_ _)); refine blk_put (cs := #[.int .i64 t305, .int .i64 t306, .int .i64 t307, .string t308, .string t309, .slice Ao14 t310.length co14, .int .i64 0, .int .i64 0, .int .i64 0, .slice none 0 0]) ?_ 6 _ rfl; (with_reducible repeat (first | refine blk_drewN ?_ _ | refine blk_drew ?_ | refine blk_alloc ?_ _)); refine blk_put (cs := #[.int .i64 t305, .int .i64 t306, .int .i64 t307, .string t308, .string t309, .slice none 0 0, .int .i64 0, .int .i64 0, .int .i64 0, .slice none 0 0]) ?_ 5 _ rfl; (with_reducible repeat (first | refine blk_drewN ?_ _ | refine blk_drew ?_ | refine blk_alloc ?_ _)); refine blk_put (cs := #[.int .i64 t305, .int .i64 t306, .int .i64 t307, .string t308, .string (⟨#[]⟩ : ByteArray), .slice none 0 0, .int .i64 0, .int .i64 0, .int .i64 0, .slice none 0 0]) ?_ 4 _ rfl; (with_reducible repeat (first | refine blk_drewN ?_ _ | refine blk_drew ?_ | refine blk_alloc ?_ _)); refine blk_put (cs := #[.int .i64 t305, .int .i64 t306, .int .i64 t307, .string (⟨#[]⟩ : ByteArray), .string (⟨#[]⟩ : ByteArray), .slice none 0 0, .int .i64 0, .int .i64 0, .int .i64 0, .slice none 0 0]) ?_ 3 _ rfl; (with_reducible repeat (first | refine blk_drewN ?_ _ | refine blk_drew ?_ | refine blk_alloc ?_ _)); refine blk_put (cs := #[.int .i64 t305, .int .i64 t306, .int .i64 0, .string (⟨#[]⟩ : ByteArray), .string (⟨#[]⟩ : ByteArray), .slice none 0 0, .int .i64 0, .int .i64 0, .int .i64 0, .slice none 0 0]) ?_ 2 _ rfl; (with_reducible repeat (first | refine blk_drewN ?_ _ | refine blk_drew ?_ | refine blk_alloc ?_ _)); refine blk_put (cs := #[.int .i64 t305, .int .i64 0, .int .i64 0, .string (⟨#[]⟩ : ByteArray), .string (⟨#[]⟩ : ByteArray), .slice none 0 0, .int .i64 0, .int .i64 0, .int .i64 0, .slice none 0 0]) ?_ 1 _ rfl; (with_reducible repeat (first | refine blk_drewN ?_ _ | refine blk_drew ?_ | refine blk_alloc ?_ _)); refine blk_put (cs := #[.int .i64 0, .int .i64 0, .int .i64 0, .string (⟨#[]⟩ : ByteArray), .string (⟨#[]⟩ : ByteArray), .slice none 0 0, .int .i64 0, .int .i64 0, .int .i64 0, .slice none 0 0]) ?_ 0 _ rfl; (with_reducible repeat (first | refine blk_drewN ?_ _ | refine blk_drew ?_ | refine blk_alloc ?_ _)); exact BK319.out))⟩; have n4_ : Aside0 (Below w.heap.size w w16) := ⟨(by rw [hw]; exact (hs_))⟩; clear hw; clear HO_4; clear HO312; clear HO318; clear BK319; clear HB; have HO_4 := n0_; have HO312 := n1_; have HO318 := n2_; have BK319 := n3_; have HB := n4_; clear n0_ n1_ n2_ n3_ n4_; have hcz17_0 : w16.cell? ⟨gb319, 0, none⟩ = some (.int .i64 t305) := (blk_cell BK319.out 0).trans rfl; have hcz17_1 : w16.cell? ⟨gb319, 1, none⟩ = some (.int .i64 t306) := (blk_cell BK319.out 1).trans rfl; have hcz17_2 : w16.cell? ⟨gb319, 2, none⟩ = some (.int .i64 t307) := (blk_cell BK319.out 2).trans rfl; have hcz17_3 : w16.cell? ⟨gb319, 3, none⟩ = some (.string t308) := (blk_cell BK319.out 3).trans rfl; have hcz17_4 : w16.cell? ⟨gb319, 4, none⟩ = some (.string t309) := (blk_cell BK319.out 4).trans rfl; have hcz17_5 : w16.cell? ⟨gb319, 5, none⟩ = some (.slice Ao14 t310.length co14) := (blk_cell BK319.out 5).trans rfl; have hcz17_6 : w16.cell? ⟨gb319, 6, none⟩ = some (.int .i64 t313) := (blk_cell BK319.out 6).trans rfl; have hcz17_7 : w16.cell? ⟨gb319, 7, none⟩ = some (.int .i64 t314) := (blk_cell BK319.out 7).trans rfl; have hcz17_8 : w16.cell? ⟨gb319, 8, none⟩ = some (.int .i64 t315) := (blk_cell BK319.out 8).trans rfl; have hcz17_9 : w16.cell? ⟨gb319, 9, none⟩ = some (.slice Ao15 t316.length co15) := (blk_cell BK319.out 9).trans rfl; have hfz17_0 := blk_frozen BK319.out 0; have hfz17_1 := blk_frozen BK319.out 1; have hfz17_2 := blk_frozen BK319.out 2; have hfz17_3 := blk_frozen BK319.out 3; have hfz17_4 := blk_frozen BK319.out 4; have hfz17_5 := blk_frozen BK319.out 5; have hfz17_6 := blk_frozen BK319.out 6; have hfz17_7 := blk_frozen BK319.out 7; have hfz17_8 := blk_frozen BK319.out 8; have hfz17_9 := blk_frozen BK319.out 9) | ((with_reducible refine gate_builtin (b := .append) (xs := #[.tmp 19, .tmp 22]) rfl ?_); at_builtin; refine Kd.S_append k37 (w0 := w) w.heap.size rfl (.tmp 19) (.tmp 22) 28 37 (.agg #[(.int .i64 0), (.string ⟨#[]⟩), (.string ⟨#[]⟩), (.slice none 0 0), (.int .i64 0), (.int .i64 0), (.int .i64 0), (.slice none 0 0)]) 112 rfl Try.underlying28 info37 rfl (by decide) (by omega) u4 x4_1 (⟨t307, t308, t309, t310, t313, t314, t315, t316⟩ : S37) [.int .i64 t307, .string t308, .string t309, .slice Ao14 t310.length co14, .int .i64 t313, .int .i64 t314, .int .i64 t315, .slice Ao15 t316.length co15] (fun _ => True) (fun k_ => some k_ = (.slice Ao14 t310.length co14 : Value).ownBlock ∨ some k_ = (.slice Ao15 t316.length co15 : Value).ownBlock) rfl rfl ?aP (fun k_ hk_ => hk_.elim (fun h_ => ((Kd.R_mono (ok' := fun k_ => ((fun _ => True)) k_ ∧ some k_ ≠ (u4 : Value).ownBlock) (Kd.R_apart' (HO312.out) (Kd.S_typed HO_4.out) (by decide)) (fun k_ hk => ⟨trivial, hk.2⟩))).1 k_ h_.symm) (fun h_ => ((Kd.R_mono (ok' := fun k_ => ((fun _ => True)) k_ ∧ some k_ ≠ (u4 : Value).ownBlock) (Kd.R_apart' (HO318.out) (Kd.S_typed HO_4.out) (by decide)) (fun k_ hk => ⟨trivial, hk.2⟩))).1 k_ h_.symm)) ?aF ?aO ?aB ?aS ?aL ?_; (case aP => exact k37_mkM _ _ _ (⟨t307, t308, t309, t310, t313, t314, t315, t316⟩ : S37) (Kd.R_mono (Kd.R_tight rfl (Kd.R_mono (ok' := fun k_ => ((fun _ => True)) k_ ∧ some k_ ≠ (u4 : Value).ownBlock) (Kd.R_apart' (HO312.out) (Kd.S_typed HO_4.out) (by decide)) (fun k_ hk => ⟨trivial, hk.2⟩))) (fun _ h_ => Or.inl h_)) (Kd.R_mono (Kd.R_tight rfl (Kd.R_mono (ok' := fun k_ => ((fun _ => True)) k_ ∧ some k_ ≠ (u4 : Value).ownBlock) (Kd.R_apart' (HO318.out) (Kd.S_typed HO_4.out) (by decide)) (fun k_ hk => ⟨trivial, hk.2⟩))) (fun _ h_ => Or.inr (h_)))); (case aB => exact (hs_)); (case aF => exact (fun _ _ => trivial)); (case aO => exact (by (with_reducible repeat (first | apply Kd.S_alloc | apply Kd.S_drewN | apply Kd.S_drew)); exact Kd.S_mono HO_4.out (fun k_ hk => ⟨trivial, fun e_ => e_.elim (fun h_ => hk.1 h_) (fun h_ => hk.2 h_)⟩))); (case aS => exact (below_size (hs_))); (case aL => have := LMc9.out; omega); intro v321 w18 ho hb hg hat; rw [← Ny320.out] at ho; have n0_ := Aside0.mk (blk_grown (g := gb319) (blk_up BK319.out) hg (Kd.S_ne HO_4.out BK319.out (by decide))); have n1_ := Aside0.mk (hb); have n2_ := Aside0.mk (ho); clear BK319; clear HB; clear HO_4; clear HO312; clear HO318; have BK319 := n0_; have HB := n1_; have HO322 := n2_; clear n0_ n1_ n2_; clear ho hb hg hat; have hcz19_0 : w18.cell? ⟨gb319, 0, none⟩ = some (.int .i64 t305) := (blk_cell BK319.out 0).trans rfl; have hcz19_1 : w18.cell? ⟨gb319, 1, none⟩ = some (.int .i64 t306) := (blk_cell BK319.out 1).trans rfl; have hcz19_2 : w18.cell? ⟨gb319, 2, none⟩ = some (.int .i64 t307) := (blk_cell BK319.out 2).trans rfl; have hcz19_3 : w18.cell? ⟨gb319, 3, none⟩ = some (.string t308) := (blk_cell BK319.out 3).trans rfl; have hcz19_4 : w18.cell? ⟨gb319, 4, none⟩ = some (.string t309) := (blk_cell BK319.out 4).trans rfl; have hcz19_5 : w18.cell? ⟨gb319, 5, none⟩ = some (.slice Ao14 t310.length co14) := (blk_cell BK319.out 5).trans rfl; have hcz19_6 : w18.cell? ⟨gb319, 6, none⟩ = some (.int .i64 t313) := (blk_cell BK319.out 6).trans rfl; have hcz19_7 : w18.cell? ⟨gb319, 7, none⟩ = some (.int .i64 t314) := (blk_cell BK319.out 7).trans rfl; have hcz19_8 : w18.cell? ⟨gb319, 8, none⟩ = some (.int .i64 t315) := (blk_cell BK319.out 8).trans rfl; have hcz19_9 : w18.cell? ⟨gb319, 9, none⟩ = some (.slice Ao15 t316.length co15) := (blk_cell BK319.out 9).trans rfl; have hfz19_0 := blk_frozen BK319.out 0; have hfz19_1 := blk_frozen BK319.out 1; have hfz19_2 := blk_frozen BK319.out 2; have hfz19_3 := blk_frozen BK319.out 3; have hfz19_4 := blk_frozen BK319.out 4; have hfz19_5 := blk_frozen BK319.out 5; have hfz19_6 := blk_frozen BK319.out 6; have hfz19_7 := blk_frozen BK319.out 7; have hfz19_8 := blk_frozen BK319.out 8; have hfz19_9 := blk_frozen BK319.out 9))
      go_roundg k1
      case measure => have := HK1.out; omega
      case rel => exact ⟨(y320), (wrap64 (x5_1 + t306)), vl_, H', ⟨by have := HK1.out; omega⟩, ⟨S_up HO322.out⟩, ⟨hs_⟩⟩
     ·
      rw [if_neg c8] at H
      have c8b0 : (t305 == 0) = false := beq_eq_false_iff_ne.mpr c8
      have c8b1 : (t305 != 0) = true := bne_iff_ne.mpr c8
      simp only [Option.some.injEq, Prod.mk.injEq] at H
      obtain ⟨rfl, rfl⟩ := H
      obtain ⟨i020, hi020, _, hsz20, _⟩ := info_parts info5
      obtain ⟨A20, hcut20, hA20, hC20⟩ := print_drop_of (P := Try.prog) (Value.int .u8) 0 24 5 .i64 Try.underlying24 hi020 hsz20 A0 c0 l0 x5_1 (od_) (od_) HC0.out
      have HR304 := Aside0.mk (Kd.C_of_reads (h1 := fun _ => rfl) (hA20 _ (Kd.reads_of_C HR0.out)))
      have HC304 := Aside0.mk hC20
      clear hA20 hC20 hi020 hsz20
      go_wp2_with (first | ((with_reducible refine gate_callee (f := 17) rfl ?_); refine goesL_ (some 15) rfl rfl Try.func17 (by kernel_rfl) rfl #[.slice A20 (l0.drop (x5_1 : Int).toNat).length (c0 - x5_1.toNat)] rfl (by (try simp only [List.map_toArray, List.map_cons, List.map_nil]); first | done | (rw [show (l0.drop (x5_1 : Int).toNat).length = (l0.length - x5_1.toNat) from List.length_drop] <;> rfl) | rfl | (simp only [List.length_drop, List.length_take]; rfl)) ?_; (with_reducible refine (spec_ReadOp.calls k1 _ _ (l0.drop (x5_1 : Int).toNat) t305 t306 t307 t308 t309 t310 t313 t314 t315 t316 _ ?_ ?_ A7.out).mono ?_); exact C_up (Kd.C_below HR304.out HB.out); exact HC304.out; rintro e w21 ⟨v311, v317, rfl, ho0, ho1, hb⟩; refine ⟨_, rfl, ?_⟩; replace HO_4 := Aside0.mk (Kd.S_mono (Kd.S_told (Kd.S_told (Kd.S_old (S_up HO_4.out) hb) (Kd.R_base ho0)) (Kd.R_base ho1)) (fun _ h_ => h_.1)); have HO312 := Aside0.mk (Kd.R_lower ho0 (below_size (hb_))); have HO318 := Aside0.mk (Kd.R_lower ho1 (below_size (hb_))); replace HB := Aside0.mk (below_step (hb_) hb); (try clear hb); (try clear ho0); (try clear ho1)) | ((with_reducible refine gate_dst (N := 6) rfl ?_); refine box_event ?hg (N := 6) ?hd (cs := #[.int .i64 0, .int .i64 0, .int .i64 0, .string (⟨#[]⟩ : ByteArray), .string (⟨#[]⟩ : ByteArray), .slice none 0 0, .int .i64 0, .int .i64 0, .int .i64 0, .slice none 0 0]) (t := 39) ?hr ?_; (case hd => rfl); (case hg => rfl); (case hr => first | (go_simp; done) | (go_simp; rfl)); intro gb319 hg w22 hbox hb; have n0_ := Aside0.mk (Kd.S_below (S_up HO_4.out) hb); have n1_ := Aside0.mk (Kd.R_below (R_up HO312.out) hb); have n2_ := Aside0.mk (Kd.R_below (R_up HO318.out) hb); have n3_ := Aside0.mk (below_step (hb_) hb); have n4_ := Aside0.mk (hbox); have n5_ := Aside0.mk ((by rw [hg]; exact (below_size (hb_)) : w.heap.size ≤ gb319)); have n6_ := Aside0.mk ((by rw [hg]; exact (below_size (hb_)) : w.heap.size ≤ gb319)); clear HO_4; clear HO312; clear HO318; clear HB; have HO_4 := n0_; have HO312 := n1_; have HO318 := n2_; have HB := n3_; have BK319 := n4_; have GW319 := n5_; have GE319 := n6_; clear n0_ n1_ n2_ n3_ n4_ n5_ n6_; clear hb hbox hg; have hcz23_0 : w22.cell? ⟨gb319, 0, none⟩ = some (.int .i64 0) := (blk_cell BK319.out 0).trans rfl; have hcz23_1 : w22.cell? ⟨gb319, 1, none⟩ = some (.int .i64 0) := (blk_cell BK319.out 1).trans rfl; have hcz23_2 : w22.cell? ⟨gb319, 2, none⟩ = some (.int .i64 0) := (blk_cell BK319.out 2).trans rfl; have hcz23_3 : w22.cell? ⟨gb319, 3, none⟩ = some (.string (⟨#[]⟩ : ByteArray)) := (blk_cell BK319.out 3).trans rfl; have hcz23_4 : w22.cell? ⟨gb319, 4, none⟩ = some (.string (⟨#[]⟩ : ByteArray)) := (blk_cell BK319.out 4).trans rfl; have hcz23_5 : w22.cell? ⟨gb319, 5, none⟩ = some (.slice none 0 0) := (blk_cell BK319.out 5).trans rfl; have hcz23_6 : w22.cell? ⟨gb319, 6, none⟩ = some (.int .i64 0) := (blk_cell BK319.out 6).trans rfl; have hcz23_7 : w22.cell? ⟨gb319, 7, none⟩ = some (.int .i64 0) := (blk_cell BK319.out 7).trans rfl; have hcz23_8 : w22.cell? ⟨gb319, 8, none⟩ = some (.int .i64 0) := (blk_cell BK319.out 8).trans rfl; have hcz23_9 : w22.cell? ⟨gb319, 9, none⟩ = some (.slice none 0 0) := (blk_cell BK319.out 9).trans rfl; have hfz23_0 := blk_frozen BK319.out 0; have hfz23_1 := blk_frozen BK319.out 1; have hfz23_2 := blk_frozen BK319.out 2; have hfz23_3 := blk_frozen BK319.out 3; have hfz23_4 := blk_frozen BK319.out 4; have hfz23_5 := blk_frozen BK319.out 5; have hfz23_6 := blk_frozen BK319.out 6; have hfz23_7 := blk_frozen BK319.out 7; have hfz23_8 := blk_frozen BK319.out 8; have hfz23_9 := blk_frozen BK319.out 9; obtain ⟨Ao24, co24, eo24⟩ := Kd.R_slice HO312.out; subst eo24; obtain ⟨Ao25, co25, eo25⟩ := Kd.R_slice HO318.out; subst eo25))
      go_ret2
      exact ⟨_, ve_, by (with_reducible repeat (first | apply Kd.S_alloc | apply Kd.S_drewN | apply Kd.S_drew)); exact Kd.S_mono (Kd.S_far (p := ⟨gb319, 9, none⟩) (Kd.S_far (p := ⟨gb319, 8, none⟩) (Kd.S_far (p := ⟨gb319, 7, none⟩) (Kd.S_far (p := ⟨gb319, 6, none⟩) (Kd.S_far (p := ⟨gb319, 5, none⟩) (Kd.S_far (p := ⟨gb319, 4, none⟩) (Kd.S_far (p := ⟨gb319, 3, none⟩) (Kd.S_far (p := ⟨gb319, 2, none⟩) (Kd.S_far (p := ⟨gb319, 1, none⟩) (Kd.S_far (p := ⟨gb319, 0, none⟩) (Kd.S_types HO_4.out BK319.out (by decide)) (fun _ hk => hk.2) (.int .i64 t305)) (fun _ hk => hk.2) (.int .i64 t306)) (fun _ hk => hk.2) (.int .i64 t307)) (fun _ hk => hk.2) (.string t308)) (fun _ hk => hk.2) (.string t309)) (fun _ hk => hk.2) (.slice Ao24 t310.length co24)) (fun _ hk => hk.2) (.int .i64 t313)) (fun _ hk => hk.2) (.int .i64 t314)) (fun _ hk => hk.2) (.int .i64 t315)) (fun _ hk => hk.2) (.slice Ao25 t316.length co25)) (fun _ hk => trivial), hs_⟩
    ·
     rw [if_neg c4] at H
     have c4b0 : decide (x5_1 < (l0.length : Int)) = false := decide_eq_false c4
     clear c4
     simp only [Option.some.injEq, Prod.mk.injEq] at H
     obtain ⟨rfl, rfl⟩ := H
     go_wp2
     go_ret2
     exact ⟨_, ve_, S_up HO_4.out, hb_⟩

/-! ### spec_ReadJournal: function 25 -/
def spec_ReadJournal.f (k : Nat) (l0 : List Int) : Option (Int × Int × (List (S37))) := if (l0.length : Int) > 8000 then (some (2, 0, ([] : List (S37)))) else ((spec_l9Journal.f k l0).bind fun bt324 => (some (0, bt324.2, bt324.1)))
set_option maxHeartbeats 8000000 in
set_option maxRecDepth 100000 in
theorem spec_ReadJournal.calls (k : Nat) (A0 : Option Addr) (c0 : Nat) (l0 : List Int) (r1 : Int) (r2 : Int) (r3 : List (S37)) (w : World) (hr0 : Kd.C (Kd.int .u8) w A0 l0.length l0) (hc0 : l0.length ≤ c0) (h : spec_ReadJournal.f k l0 = some (r1, r2, r3)) :
 Calls Try.prog 25 #[.slice A0 l0.length c0] w fun e w' => ∃ v2_ : Value, e = .returned (.agg #[.int .i64 r1, .int .i64 r2, v2_]) ∧ Kd.S k37 37 w' w.heap.size (fun _ => True) v2_ r3 ∧ Below w.heap.size w w' := by
 have hu48 := Try.underlying48
 have HR0 := Aside0.mk hr0
 have HC0 := Aside0.mk hc0
 clear hr0 hc0
 have HB := Aside0.mk (Below.refl w.heap.size w)
 have H : (if (l0.length : Int) > 8000 then (some (2, 0, ([] : List (S37)))) else ((spec_l9Journal.f k l0).bind fun bt324 => (some (0, bt324.2, bt324.1)))) = some (r1, r2, r3) := h
 clear h
 by_cases c2 : (l0.length : Int) > 8000
 ·
  rw [if_pos c2] at H
  have c2b0 : decide (8000 < (l0.length : Int)) = true := decide_eq_true c2
  have c2b1 : decide (8000 < l0.length) = true := decide_eq_true (by omega)
  clear c2
  simp only [Option.some.injEq, Prod.mk.injEq] at H
  obtain ⟨rfl, rfl, rfl⟩ := H
  go_enter Try.func25, Try.ntmps25
  go_wp2_with (first | ((with_reducible refine gate_dst (N := 2) rfl ?_); refine box_event ?hg (N := 2) ?hd (cs := #[.int .i64 0, .int .i64 0, .slice none 0 0]) (t := 48) ?hr ?_; (case hd => rfl); (case hg => rfl); (case hr => first | (go_simp; done) | (go_simp; rfl)); intro gb323 hg w3 hbox hb; have n0_ := Aside0.mk (below_step hs_ hb); have n1_ := Aside0.mk (hbox); have n2_ := Aside0.mk ((by rw [hg]; exact (below_size hs_) : w.heap.size ≤ gb323)); have n3_ := Aside0.mk ((by rw [hg]; exact (below_size hs_) : w.heap.size ≤ gb323)); clear HB; have HB := n0_; have BK323 := n1_; have GW323 := n2_; have GE323 := n3_; clear n0_ n1_ n2_ n3_; clear hb hbox hg; have hcz4_0 : w3.cell? ⟨gb323, 0, none⟩ = some (.int .i64 0) := (blk_cell BK323.out 0).trans rfl; have hcz4_1 : w3.cell? ⟨gb323, 1, none⟩ = some (.int .i64 0) := (blk_cell BK323.out 1).trans rfl; have hcz4_2 : w3.cell? ⟨gb323, 2, none⟩ = some (.slice none 0 0) := (blk_cell BK323.out 2).trans rfl; have hfz4_0 := blk_frozen BK323.out 0; have hfz4_1 := blk_frozen BK323.out 1; have hfz4_2 := blk_frozen BK323.out 2))
  refine bodyPost_ret (results_cell_row rfl _ _ gb323 48 #[.int .i64 2, .int .i64 0, .slice none 0 0] (0, 0) _ rfl (by (with_reducible repeat (first | refine blk_drewN ?_ _ | refine blk_drew ?_ | refine blk_alloc ?_ _)); refine blk_put (cs := #[.int .i64 2, .int .i64 0, .slice none 0 0]) ?_ 2 _ rfl; (with_reducible repeat (first | refine blk_drewN ?_ _ | refine blk_drew ?_ | refine blk_alloc ?_ _)); refine blk_put (cs := #[.int .i64 2, .int .i64 0, .slice none 0 0]) ?_ 1 _ rfl; (with_reducible repeat (first | refine blk_drewN ?_ _ | refine blk_drew ?_ | refine blk_alloc ?_ _)); refine blk_put (cs := #[.int .i64 0, .int .i64 0, .slice none 0 0]) ?_ 0 _ rfl; (with_reducible repeat (first | refine blk_drewN ?_ _ | refine blk_drew ?_ | refine blk_alloc ?_ _)); exact BK323.out) Try.underlying48 rfl (by kernel_rfl)) rfl ?_
  exact ⟨_, ve_, by first | exact Kd.S_nil _ _ _ _ _ | exact Kd.N_nil _ _ _ _ _ | exact Kd.V_nil _ _ _ _ _ | exact Kd.Q_nil _ _ _ _ _ | exact Kd.R_nil _ _ _ _ _, hs_⟩
 ·
  rw [if_neg c2] at H
  have c2b0 : decide (8000 < (l0.length : Int)) = false := decide_eq_false c2
  have c2b1 : decide (8000 < l0.length) = false := decide_eq_false (by omega)
  clear c2
  replace H := Option.bind_eq_some_iff.mp H
  obtain ⟨⟨t324, t325⟩, A50, H⟩ := H
  replace H : (some (0, t325, t324)) = some (r1, r2, r3) := H
  have A5 := Aside0.mk A50
  clear A50
  simp only [Option.some.injEq, Prod.mk.injEq] at H
  obtain ⟨rfl, rfl, rfl⟩ := H
  go_enter Try.func25, Try.ntmps25
  go_wp2_with (first | ((with_reducible refine gate_dst (N := 2) rfl ?_); refine box_event ?hg (N := 2) ?hd (cs := #[.int .i64 0, .int .i64 0, .slice none 0 0]) (t := 48) ?hr ?_; (case hd => rfl); (case hg => rfl); (case hr => first | (go_simp; done) | (go_simp; rfl)); intro gb323 hg w6 hbox hb; have n0_ := Aside0.mk (below_step hs_ hb); have n1_ := Aside0.mk (hbox); have n2_ := Aside0.mk ((by rw [hg]; exact (below_size hs_) : w.heap.size ≤ gb323)); have n3_ := Aside0.mk ((by rw [hg]; exact (below_size hs_) : w.heap.size ≤ gb323)); clear HB; have HB := n0_; have BK323 := n1_; have GW323 := n2_; have GE323 := n3_; clear n0_ n1_ n2_ n3_; clear hb hbox hg) | ((with_reducible refine gate_callee (f := 54) rfl ?_); refine goesY_ (some 11) Try.func54 #[.slice A0 l0.length c0] rfl ?_; (with_reducible refine (spec_l9Journal.calls k _ _ l0 t324 t325 _ ?_ ?_ A5.out).mono ?_); exact C_up (Kd.C_below HR0.out HB.out); exact HC0.out; rintro e w7 ⟨v326, rfl, ho0, hb⟩; refine ⟨_, rfl, ?_⟩; have HO327 := Aside0.mk (Kd.S_lower ho0 (below_size (hs_))); replace BK323 := Aside0.mk (blk_below (g := gb323) (blk_up BK323.out) hb); replace HB := Aside0.mk (below_step (hs_) hb); (try clear hb); (try clear ho0); obtain ⟨Ao8, co8, eo8⟩ := Kd.S_slice HO327.out; subst eo8; have hcz9_0 : w7.cell? ⟨gb323, 0, none⟩ = some (.int .i64 0) := (blk_cell BK323.out 0).trans rfl; have hcz9_1 : w7.cell? ⟨gb323, 1, none⟩ = some (.int .i64 0) := (blk_cell BK323.out 1).trans rfl; have hcz9_2 : w7.cell? ⟨gb323, 2, none⟩ = some (.slice none 0 0) := (blk_cell BK323.out 2).trans rfl; have hfz9_0 := blk_frozen BK323.out 0; have hfz9_1 := blk_frozen BK323.out 1; have hfz9_2 := blk_frozen BK323.out 2))
  refine bodyPost_ret (results_cell_row rfl _ _ gb323 48 #[.int .i64 0, .int .i64 t325, .slice Ao8 t324.length co8] (0, 0) _ rfl (by (with_reducible repeat (first | refine blk_drewN ?_ _ | refine blk_drew ?_ | refine blk_alloc ?_ _)); refine blk_put (cs := #[.int .i64 0, .int .i64 t325, .slice none 0 0]) ?_ 2 _ rfl; (with_reducible repeat (first | refine blk_drewN ?_ _ | refine blk_drew ?_ | refine blk_alloc ?_ _)); refine blk_put (cs := #[.int .i64 0, .int .i64 0, .slice none 0 0]) ?_ 1 _ rfl; (with_reducible repeat (first | refine blk_drewN ?_ _ | refine blk_drew ?_ | refine blk_alloc ?_ _)); refine blk_put (cs := #[.int .i64 0, .int .i64 0, .slice none 0 0]) ?_ 0 _ rfl; (with_reducible repeat (first | refine blk_drewN ?_ _ | refine blk_drew ?_ | refine blk_alloc ?_ _)); exact BK323.out) Try.underlying48 rfl (by kernel_rfl)) rfl ?_
  exact ⟨_, ve_, by (with_reducible repeat (first | apply Kd.S_alloc | apply Kd.S_drewN | apply Kd.S_drew)); exact Kd.S_mono (Kd.S_far (p := ⟨gb323, 2, none⟩) (Kd.S_far (p := ⟨gb323, 1, none⟩) (Kd.S_far (p := ⟨gb323, 0, none⟩) (Kd.S_types HO327.out BK323.out (by decide)) (fun _ hk => hk.2) (.int .i64 0)) (fun _ hk => hk.2) (.int .i64 t325)) (fun _ hk => hk.2) (.slice Ao8 t324.length co8)) (fun _ hk => trivial), hs_⟩

/-! ### impl_within: function 76 -/
def impl_within.f (a0 : Int) (a1 : Int) (a2 : Int) : Option (Bool) := if a0 ≥ a1 then (some (decide (a0 ≤ a2))) else (some false)
set_option maxHeartbeats 8000000 in
set_option maxRecDepth 100000 in
theorem impl_within.calls (a0 : Int) (a1 : Int) (a2 : Int) (r : Bool) (w : World) (h : impl_within.f a0 a1 a2 = some r) :
 Calls Try.prog 76 #[.int .i64 a0, .int .i64 a1, .int .i64 a2] w fun e w' => e = .returned (.bool r) ∧ Drawn0 w w' := by
 have H : (if a0 ≥ a1 then (some (decide (a0 ≤ a2))) else (some false)) = some r := h
 clear h
 by_cases c4 : a0 ≥ a1
 ·
  rw [if_pos c4] at H
  have c4b0 : decide (a1 ≤ a0) = true := decide_eq_true c4
  clear c4
  obtain rfl := Option.some.inj H
  go_enter Try.func76, Try.ntmps76
  go_wp2
  go_ret
  exact ⟨vl_, dr_⟩
 ·
  rw [if_neg c4] at H
  have c4b0 : decide (a1 ≤ a0) = false := decide_eq_false c4
  clear c4
  obtain rfl := Option.some.inj H
  go_enter Try.func76, Try.ntmps76
  go_wp2
  go_ret
  exact ⟨vl_, dr_⟩

/-! ### impl_Op_hasTo: function 79 -/
def impl_Op_hasTo.f (a0_0 : Int) (a0_1 : ByteArray) (a0_2 : ByteArray) (l0_3 : List Int) (a0_4 : Int) (a0_5 : Int) (a0_6 : Int) (l0_7 : List Int) : Option (Bool) := if a0_0 = 5 then (some true) else (some (a0_0 == 6))
set_option maxHeartbeats 8000000 in
set_option maxRecDepth 100000 in
theorem impl_Op_hasTo.calls (a0_0 : Int) (a0_1 : ByteArray) (a0_2 : ByteArray) (A0_3 : Option Addr) (c0_3 : Nat) (l0_3 : List Int) (a0_4 : Int) (a0_5 : Int) (a0_6 : Int) (A0_7 : Option Addr) (c0_7 : Nat) (l0_7 : List Int) (r : Bool) (w : World) (hr0_3 : Kd.C (Kd.int .i64) w A0_3 l0_3.length l0_3) (hc0_3 : l0_3.length ≤ c0_3) (hr0_7 : Kd.C (Kd.int .u8) w A0_7 l0_7.length l0_7) (hc0_7 : l0_7.length ≤ c0_7) (h : impl_Op_hasTo.f a0_0 a0_1 a0_2 l0_3 a0_4 a0_5 a0_6 l0_7 = some r) :
 Calls Try.prog 79 #[.agg #[.int .i64 a0_0, .string a0_1, .string a0_2, .slice A0_3 l0_3.length c0_3, .int .i64 a0_4, .int .i64 a0_5, .int .i64 a0_6, .slice A0_7 l0_7.length c0_7]] w fun e w' => e = .returned (.bool r) ∧ Below w.heap.size w w' := by
 have hu37 := Try.underlying37
 have HR0_3 := Aside0.mk hr0_3
 have HC0_3 := Aside0.mk hc0_3
 clear hr0_3 hc0_3
 have HR0_7 := Aside0.mk hr0_7
 have HC0_7 := Aside0.mk hc0_7
 clear hr0_7 hc0_7
 have HB := Aside0.mk (Below.refl w.heap.size w)
 have H : (if a0_0 = 5 then (some true) else (some (a0_0 == 6))) = some r := h
 clear h
 by_cases c2 : a0_0 = 5
 ·
  rw [if_pos c2] at H
  have c2b0 : (a0_0 == 5) = true := beq_iff_eq.mpr c2
  have c2b1 : (a0_0 != 5) = false := bne_eq_false_iff_eq.mpr c2
  clear c2
  obtain rfl := Option.some.inj H
  go_enter Try.func79, Try.ntmps79
  go_wp2_with (first | ((with_reducible refine gate_dst (N := 1) rfl ?_); refine box_event ?hg (N := 1) ?hd (cs := #[.int .i64 a0_0, .string a0_1, .string a0_2, .slice A0_3 l0_3.length c0_3, .int .i64 a0_4, .int .i64 a0_5, .int .i64 a0_6, .slice A0_7 l0_7.length c0_7]) (t := 37) ?hr ?_; (case hd => rfl); (case hg => rfl); (case hr => first | (go_simp; done) | (go_simp; rfl)); intro gb328 hg w3 hbox hb; have n0_ := Aside0.mk (below_step (HB_up HB.out) hb); have n1_ := Aside0.mk (hbox); have n2_ := Aside0.mk ((by rw [hg]; exact (below_size (HB_up HB.out)) : w.heap.size ≤ gb328)); have n3_ := Aside0.mk ((by rw [hg]; exact (below_size (HB_up HB.out)) : w.heap.size ≤ gb328)); clear HB; have HB := n0_; have BK328 := n1_; have GW328 := n2_; have GE328 := n3_; clear n0_ n1_ n2_ n3_; clear hb hbox hg; obtain ⟨hcz4_0, hcz4_1, hcz4_2, hcz4_3, hcz4_4, hcz4_5, hcz4_6, hcz4_7⟩ := blk_cells8 BK328.out; obtain ⟨hfz4_0, hfz4_1, hfz4_2, hfz4_3, hfz4_4, hfz4_5, hfz4_6, hfz4_7⟩ := blk_frozen8 BK328.out))
  go_ret
  exact ⟨ve_, hs_⟩
 ·
  rw [if_neg c2] at H
  have c2b0 : (a0_0 == 5) = false := beq_eq_false_iff_ne.mpr c2
  have c2b1 : (a0_0 != 5) = true := bne_iff_ne.mpr c2
  obtain rfl := Option.some.inj H
  go_enter Try.func79, Try.ntmps79
  go_wp2_with (first | ((with_reducible refine gate_dst (N := 1) rfl ?_); refine box_event ?hg (N := 1) ?hd (cs := #[.int .i64 a0_0, .string a0_1, .string a0_2, .slice A0_3 l0_3.length c0_3, .int .i64 a0_4, .int .i64 a0_5, .int .i64 a0_6, .slice A0_7 l0_7.length c0_7]) (t := 37) ?hr ?_; (case hd => rfl); (case hg => rfl); (case hr => first | (go_simp; done) | (go_simp; rfl)); intro gb328 hg w5 hbox hb; have n0_ := Aside0.mk (below_step (HB_up HB.out) hb); have n1_ := Aside0.mk (hbox); have n2_ := Aside0.mk ((by rw [hg]; exact (below_size (HB_up HB.out)) : w.heap.size ≤ gb328)); have n3_ := Aside0.mk ((by rw [hg]; exact (below_size (HB_up HB.out)) : w.heap.size ≤ gb328)); clear HB; have HB := n0_; have BK328 := n1_; have GW328 := n2_; have GE328 := n3_; clear n0_ n1_ n2_ n3_; clear hb hbox hg; obtain ⟨_, _, _, _, _, _, _, _⟩ := blk_cells8 BK328.out; obtain ⟨_, _, _, _, _, _, _, _⟩ := blk_frozen8 BK328.out))
  go_ret
  exact ⟨ve_, hs_⟩

/-! ### impl_Op_hasUids: function 100 -/
def impl_Op_hasUids.f (a0_0 : Int) (a0_1 : ByteArray) (a0_2 : ByteArray) (l0_3 : List Int) (a0_4 : Int) (a0_5 : Int) (a0_6 : Int) (l0_7 : List Int) : Option (Bool) := (impl_Op_hasTo.f a0_0 a0_1 a0_2 l0_3 a0_4 a0_5 a0_6 l0_7).bind fun t330 => (if t330 = true then (some true) else (some (a0_0 == 4)))
set_option maxHeartbeats 8000000 in
set_option maxRecDepth 100000 in
theorem impl_Op_hasUids.calls (a0_0 : Int) (a0_1 : ByteArray) (a0_2 : ByteArray) (A0_3 : Option Addr) (c0_3 : Nat) (l0_3 : List Int) (a0_4 : Int) (a0_5 : Int) (a0_6 : Int) (A0_7 : Option Addr) (c0_7 : Nat) (l0_7 : List Int) (r : Bool) (w : World) (hr0_3 : Kd.C (Kd.int .i64) w A0_3 l0_3.length l0_3) (hc0_3 : l0_3.length ≤ c0_3) (hr0_7 : Kd.C (Kd.int .u8) w A0_7 l0_7.length l0_7) (hc0_7 : l0_7.length ≤ c0_7) (h : impl_Op_hasUids.f a0_0 a0_1 a0_2 l0_3 a0_4 a0_5 a0_6 l0_7 = some r) :
 Calls Try.prog 100 #[.agg #[.int .i64 a0_0, .string a0_1, .string a0_2, .slice A0_3 l0_3.length c0_3, .int .i64 a0_4, .int .i64 a0_5, .int .i64 a0_6, .slice A0_7 l0_7.length c0_7]] w fun e w' => e = .returned (.bool r) ∧ Below w.heap.size w w' := by
 have hu37 := Try.underlying37
 have HR0_3 := Aside0.mk hr0_3
 have HC0_3 := Aside0.mk hc0_3
 clear hr0_3 hc0_3
 have HR0_7 := Aside0.mk hr0_7
 have HC0_7 := Aside0.mk hc0_7
 clear hr0_7 hc0_7
 have HB := Aside0.mk (Below.refl w.heap.size w)
 have H : ((impl_Op_hasTo.f a0_0 a0_1 a0_2 l0_3 a0_4 a0_5 a0_6 l0_7).bind fun t330 => (if t330 = true then (some true) else (some (a0_0 == 4)))) = some r := h
 clear h
 replace H := Option.bind_eq_some_iff.mp H
 obtain ⟨t330, A20, H⟩ := H
 (try dsimp only at H)
 have A2 := Aside0.mk A20
 clear A20
 by_cases c3 : t330 = true
 ·
  subst c3
  (try rw [if_pos rfl] at H)
  obtain rfl := Option.some.inj H
  go_enter Try.func100, Try.ntmps100
  go_wp2_with (first | ((with_reducible refine gate_dst (N := 1) rfl ?_); refine box_event ?hg (N := 1) ?hd (cs := #[.int .i64 a0_0, .string a0_1, .string a0_2, .slice A0_3 l0_3.length c0_3, .int .i64 a0_4, .int .i64 a0_5, .int .i64 a0_6, .slice A0_7 l0_7.length c0_7]) (t := 37) ?hr ?_; (case hd => rfl); (case hg => rfl); (case hr => first | (go_simp; done) | (go_simp; rfl)); intro gb329 hg w4 hbox hb; have n0_ := Aside0.mk (below_step (HB_up HB.out) hb); have n1_ := Aside0.mk (hbox); have n2_ := Aside0.mk ((by rw [hg]; exact (below_size (HB_up HB.out)) : w.heap.size ≤ gb329)); have n3_ := Aside0.mk ((by rw [hg]; exact (below_size (HB_up HB.out)) : w.heap.size ≤ gb329)); clear HB; have HB := n0_; have BK329 := n1_; have GW329 := n2_; have GE329 := n3_; clear n0_ n1_ n2_ n3_; clear hb hbox hg; obtain ⟨_, _, _, _, _, _, _, _⟩ := blk_cells8 BK329.out; obtain ⟨_, _, _, _, _, _, _, _⟩ := blk_frozen8 BK329.out) | ((with_reducible refine gate_callee (f := 79) rfl ?_); refine goesY_ (some 4) Try.func79 #[.agg #[.int .i64 a0_0, .string a0_1, .string a0_2, .slice A0_3 l0_3.length c0_3, .int .i64 a0_4, .int .i64 a0_5, .int .i64 a0_6, .slice A0_7 l0_7.length c0_7]] rfl ?_; (with_reducible refine (impl_Op_hasTo.calls a0_0 a0_1 a0_2 _ _ l0_3 a0_4 a0_5 a0_6 _ _ l0_7 true _ ?_ ?_ ?_ ?_ A2.out).mono ?_); exact C_up (Kd.C_below HR0_3.out HB.out); exact HC0_3.out; exact C_up (Kd.C_below HR0_7.out HB.out); exact HC0_7.out; rintro e w6 ⟨rfl, hb⟩; refine ⟨_, rfl, ?_⟩; replace BK329 := Aside0.mk (blk_below (g := gb329) (blk_up BK329.out) hb); replace HB := Aside0.mk (below_step (HB_up HB.out) hb); (try clear hb)))
  go_ret
  exact ⟨ve_, hs_⟩
 ·
  replace c3 := Bool.eq_false_iff.mpr c3
  subst c3
  (try rw [if_neg (show ¬ (false = true) by decide)] at H)
  obtain rfl := Option.some.inj H
  go_enter Try.func100, Try.ntmps100
  go_wp2_with (first | ((with_reducible refine gate_dst (N := 1) rfl ?_); refine box_event ?hg (N := 1) ?hd (cs := #[.int .i64 a0_0, .string a0_1, .string a0_2, .slice A0_3 l0_3.length c0_3, .int .i64 a0_4, .int .i64 a0_5, .int .i64 a0_6, .slice A0_7 l0_7.length c0_7]) (t := 37) ?hr ?_; (case hd => rfl); (case hg => rfl); (case hr => first | (go_simp; done) | (go_simp; rfl)); intro gb329 hg w7 hbox hb; have n0_ := Aside0.mk (below_step (HB_up HB.out) hb); have n1_ := Aside0.mk (hbox); have n2_ := Aside0.mk ((by rw [hg]; exact (below_size (HB_up HB.out)) : w.heap.size ≤ gb329)); have n3_ := Aside0.mk ((by rw [hg]; exact (below_size (HB_up HB.out)) : w.heap.size ≤ gb329)); clear HB; have HB := n0_; have BK329 := n1_; have GW329 := n2_; have GE329 := n3_; clear n0_ n1_ n2_ n3_; clear hb hbox hg; obtain ⟨_, _, _, _, _, _, _, _⟩ := blk_cells8 BK329.out; obtain ⟨_, _, _, _, _, _, _, _⟩ := blk_frozen8 BK329.out) | ((with_reducible refine gate_callee (f := 79) rfl ?_); refine goesY_ (some 4) Try.func79 #[.agg #[.int .i64 a0_0, .string a0_1, .string a0_2, .slice A0_3 l0_3.length c0_3, .int .i64 a0_4, .int .i64 a0_5, .int .i64 a0_6, .slice A0_7 l0_7.length c0_7]] rfl ?_; (with_reducible refine (impl_Op_hasTo.calls a0_0 a0_1 a0_2 _ _ l0_3 a0_4 a0_5 a0_6 _ _ l0_7 false _ ?_ ?_ ?_ ?_ A2.out).mono ?_); exact C_up (Kd.C_below HR0_3.out HB.out); exact HC0_3.out; exact C_up (Kd.C_below HR0_7.out HB.out); exact HC0_7.out; rintro e w9 ⟨rfl, hb⟩; refine ⟨_, rfl, ?_⟩; replace BK329 := Aside0.mk (blk_below (g := gb329) (blk_up BK329.out) hb); replace HB := Aside0.mk (below_step (HB_up HB.out) hb); (try clear hb); obtain ⟨_, _, _, _, _, _, _, _⟩ := blk_cells8 BK329.out; obtain ⟨_, _, _, _, _, _, _, _⟩ := blk_frozen8 BK329.out))
  go_ret
  exact ⟨ve_, hs_⟩

end Go.Proofs.Ytehdbobpbcjmeaa.PFnExactReadJournal

/- Functions of the program as Lean functions, each with the proof that its call comes to what that function says (texts written by a program of this session). Conditions: those that stand in each theorem. -/
import Derived.Test.YtehdbobpbcjmeaaPFnExactReadJournalx0
import Derived.Test.YtehdbobpbcjmeaaPFnExactReadJournalx2
namespace Go.Proofs.Ytehdbobpbcjmeaa.PFnExactReadJournal
open Go.RowKit Go.Proofs.YtehdbobpbcjmeaaW.PrintWords Go.Proofs.YtehdbobpbcjmeaaW.PrintLast Go.Proofs.YtehdbobpbcjmeaaW.PrintMore
attribute [local go_sem] max2_int min2_int max_two min_two max_three min_three max_four min_four   -- for this text's walks alone
set_option linter.unusedVariables false
set_option linter.unusedSimpArgs false

/-! ### spec_l9Pack: function 42 -/
def spec_l9Pack.l0 : Nat → List (S37) → List Int → Int → Option (List Int)
 | 0, _, _, _ => none
 | k + 1, x0, x3, x4 => if 0 < (x0.length : Int) then (if x4 < (((rd_T37 x0 0).f3).length : Int) then (if 0 ≤ x4 then ((spec_l9Two.f (rd ((rd_T37 x0 0).f3) x4)).bind fun t173 => (if x3.length + t173.length < 140737488355328 then (spec_l9Pack.l0 k x0 (x3 ++ t173) (wrap64 (x4 + 1))) else (none))) else (none)) else ((some (([((rd_T37 x0 0).f4) % 256, ((rd_T37 x0 0).f5) % 256] : List Int) : List Int)).bind fun y180 => (if x3.length + y180.length < 140737488355328 then ((some (x3 ++ y180 : List Int)).bind fun y183 => ((spec_l9Two.f ((rd_T37 x0 0).f6)).bind fun t186 => (if y183.length + t186.length < 140737488355328 then ((some (y183 ++ t186 : List Int)).bind fun y189 => ((spec_l9Two.f (((rd_T37 x0 0).f7).length : Int)).bind fun t193 => (if y189.length + t193.length < 140737488355328 then ((some (y189 ++ t193 : List Int)).bind fun y196 => (if y196.length + ((rd_T37 x0 0).f7).length < 140737488355328 then ((some (y196 ++ ((rd_T37 x0 0).f7) : List Int)).bind fun y199 => ((spec_l9Two.f (wrap64 ((y199.length : Int) + 2))).bind fun t202 => ((some (cpy y199 t202 : List Int)).bind fun y205 => ((spec_l9Sum.f k y205).bind fun t208 => ((spec_l9Two.f t208).bind fun t209 => (if y205.length + t209.length < 140737488355328 then (some (y205 ++ t209)) else (none))))))) else (none))) else (none)))) else (none)))) else (none)))) else (none)
def spec_l9Pack.f (k : Nat) (l0 : List (S37)) : Option (List Int) := if 0 < (l0.length : Int) then ((some (([0, 0, ((rd_T37 l0 0).f0) % 256, ((((rd_T37 l0 0).f1).size : Int)) % 256] : List Int) : List Int)).bind fun y141 => (if ((rd_T37 l0 0).f1).size < 140737488355328 then ((some (bytesOf ((rd_T37 l0 0).f1) : List Int)).bind fun y145 => (if y141.length + y145.length < 140737488355328 then ((some (y141 ++ y145 : List Int)).bind fun y148 => ((some (([((((rd_T37 l0 0).f2).size : Int)) % 256] : List Int) : List Int)).bind fun y151 => (if y148.length + y151.length < 140737488355328 then ((some (y148 ++ y151 : List Int)).bind fun y154 => (if ((rd_T37 l0 0).f2).size < 140737488355328 then ((some (bytesOf ((rd_T37 l0 0).f2) : List Int)).bind fun y157 => (if y154.length + y157.length < 140737488355328 then ((some (y154 ++ y157 : List Int)).bind fun y160 => ((some (([((((rd_T37 l0 0).f3).length : Int)) % 256] : List Int) : List Int)).bind fun y164 => (if y160.length + y164.length < 140737488355328 then (spec_l9Pack.l0 k l0 (y160 ++ y164) 0) else (none)))) else (none))) else (none))) else (none)))) else (none))) else (none))) else (none)
def spec_l9Pack.T1 : Bool × List (List Nat × List Nat) := (true, [([], []), ([0], [0]), ([1], [1]), ([2], [2]), ([3], [3]), ([], []), ([5], [5]), ([6], [6]), ([7], [7]), ([8], [8]), ([9], [9]), ([4, 10], [4, 10]), ([11, 0, 1, 2, 3, 4, 5, 6, 7, 8, 9, 10, 11], [11])])
def spec_l9Pack.B1 : List Nat := [0, 1, 3, 7, 15, 0, 32, 96, 224, 480, 992, 2047, 4095]
theorem spec_l9Pack.tab1 : rtab .any (opsOf Try.f42 1) = spec_l9Pack.T1 := by kernel_rfl
theorem spec_l9Pack.bits1 : waitsOk spec_l9Pack.T1.2 spec_l9Pack.B1 = true := by kernel_rfl
def spec_l9Pack.T2 : Bool × List (List Nat × List Nat) := (true, [([], []), ([], []), ([1], [1]), ([2], [2]), ([3], [3]), ([4], [4]), ([0, 5], [0, 5]), ([], []), ([7], [7]), ([8], [8]), ([9], [9]), ([10], [10]), ([11], [11]), ([12], [12]), ([6, 13, 6], [6, 13]), ([], []), ([15], [15]), ([16], [16]), ([17], [17]), ([18], [18]), ([14, 19, 14], [14, 19]), ([20, 20, 0, 1, 2, 3, 4, 5, 6, 7, 8, 9, 10, 11, 12, 13, 14, 15, 16, 17, 18, 19, 20], [0, 20])])
def spec_l9Pack.B2 : List Nat := [0, 0, 2, 6, 14, 30, 63, 0, 128, 384, 896, 1920, 3968, 8064, 16383, 0, 32768, 98304, 229376, 491520, 1048575, 2097151]
theorem spec_l9Pack.tab2 : rtab .any (opsOf Try.f42 2) = spec_l9Pack.T2 := by kernel_rfl
theorem spec_l9Pack.bits2 : waitsOk spec_l9Pack.T2.2 spec_l9Pack.B2 = true := by kernel_rfl
def spec_l9Pack.T8 : Bool × List (List Nat × List Nat) := (true, [([], []), ([], []), ([1], [1]), ([2], [2]), ([3], [3]), ([4], [4]), ([], []), ([6], [6]), ([7], [7]), ([8], [8]), ([9], [9]), ([5, 10], [5, 10]), ([0, 11], [0, 11]), ([], []), ([13], [13]), ([14], [14]), ([15], [15]), ([16, 12], [16]), ([12, 17, 17], [12, 17]), ([18, 18, 0, 1, 2, 3, 4, 5, 6, 7, 8, 9, 10, 11, 12, 13, 14, 15, 16, 17, 18], [0, 18])])
def spec_l9Pack.B8 : List Nat := [0, 0, 2, 6, 14, 30, 0, 64, 192, 448, 960, 2046, 4095, 0, 8192, 24576, 57344, 131071, 262143, 524287]
theorem spec_l9Pack.tab8 : rtab .any (opsOf Try.f42 8) = spec_l9Pack.T8 := by kernel_rfl
theorem spec_l9Pack.bits8 : waitsOk spec_l9Pack.T8.2 spec_l9Pack.B8 = true := by kernel_rfl
def spec_l9Pack.T9 : Bool × List (List Nat × List Nat) := (true, [([], []), ([], []), ([1], [1]), ([2], [2]), ([3], [3]), ([4], [4]), ([5], [5]), ([0, 6, 6], [0, 6]), ([], []), ([8], [8]), ([9], [9]), ([10], [10]), ([7, 11, 7], [7, 11]), ([12, 12, 0, 1, 2, 3, 4, 5, 6, 7, 8, 9, 10, 11, 12], [0, 12])])
def spec_l9Pack.B9 : List Nat := [0, 0, 2, 6, 14, 30, 62, 127, 0, 256, 768, 1792, 4095, 8191]
theorem spec_l9Pack.tab9 : rtab .any (opsOf Try.f42 9) = spec_l9Pack.T9 := by kernel_rfl
theorem spec_l9Pack.bits9 : waitsOk spec_l9Pack.T9.2 spec_l9Pack.B9 = true := by kernel_rfl
set_option maxHeartbeats 8000000 in
set_option maxRecDepth 100000 in
theorem spec_l9Pack.calls (k : Nat) (A0 : Option Addr) (c0 : Nat) (l0 : List (S37)) (r : List Int) (w : World) (hr0 : Kd.C k37 w A0 l0.length l0) (hc0 : l0.length ≤ c0) (h : spec_l9Pack.f k l0 = some r) :
 Calls Try.prog 42 #[.pointer A0] w fun e w' => ∃ v0_ : Value, e = .returned (v0_) ∧ Kd.R (Kd.int .u8) 5 w' w.heap.size (fun _ => True) v0_ r ∧ Below w.heap.size w w' := by
 have HR0 := Aside0.mk hr0
 have HC0 := Aside0.mk hc0
 clear hr0 hc0
 have HB := Aside0.mk (Below.refl w.heap.size w)
 have H : (if 0 < (l0.length : Int) then ((some (([0, 0, ((rd_T37 l0 0).f0) % 256, ((((rd_T37 l0 0).f1).size : Int)) % 256] : List Int) : List Int)).bind fun y141 => (if ((rd_T37 l0 0).f1).size < 140737488355328 then ((some (bytesOf ((rd_T37 l0 0).f1) : List Int)).bind fun y145 => (if y141.length + y145.length < 140737488355328 then ((some (y141 ++ y145 : List Int)).bind fun y148 => ((some (([((((rd_T37 l0 0).f2).size : Int)) % 256] : List Int) : List Int)).bind fun y151 => (if y148.length + y151.length < 140737488355328 then ((some (y148 ++ y151 : List Int)).bind fun y154 => (if ((rd_T37 l0 0).f2).size < 140737488355328 then ((some (bytesOf ((rd_T37 l0 0).f2) : List Int)).bind fun y157 => (if y154.length + y157.length < 140737488355328 then ((some (y154 ++ y157 : List Int)).bind fun y160 => ((some (([((((rd_T37 l0 0).f3).length : Int)) % 256] : List Int) : List Int)).bind fun y164 => (if y160.length + y164.length < 140737488355328 then (spec_l9Pack.l0 k l0 (y160 ++ y164) 0) else (none)))) else (none))) else (none))) else (none)))) else (none))) else (none))) else (none)) = some r := h
 clear h
 by_cases c2 : 0 < (l0.length : Int)
 ·
  rw [if_pos c2] at H
  have c2b0 : decide (0 < (l0.length : Int)) = true := decide_eq_true c2
  have c2b1 : decide (0 < l0.length) = true := decide_eq_true (by omega)
  clear c2
  obtain ⟨y141, hy141⟩ : ∃ y_ : List Int, y_ = (([0, 0, ((rd_T37 l0 0).f0) % 256, ((((rd_T37 l0 0).f1).size : Int)) % 256] : List Int)) := ⟨_, rfl⟩
  replace H : (if ((rd_T37 l0 0).f1).size < 140737488355328 then ((some (bytesOf ((rd_T37 l0 0).f1) : List Int)).bind fun y145 => (if y141.length + y145.length < 140737488355328 then ((some (y141 ++ y145 : List Int)).bind fun y148 => ((some (([((((rd_T37 l0 0).f2).size : Int)) % 256] : List Int) : List Int)).bind fun y151 => (if y148.length + y151.length < 140737488355328 then ((some (y148 ++ y151 : List Int)).bind fun y154 => (if ((rd_T37 l0 0).f2).size < 140737488355328 then ((some (bytesOf ((rd_T37 l0 0).f2) : List Int)).bind fun y157 => (if y154.length + y157.length < 140737488355328 then ((some (y154 ++ y157 : List Int)).bind fun y160 => ((some (([((((rd_T37 l0 0).f3).length : Int)) % 256] : List Int) : List Int)).bind fun y164 => (if y160.length + y164.length < 140737488355328 then (spec_l9Pack.l0 k l0 (y160 ++ y164) 0) else (none)))) else (none))) else (none))) else (none)))) else (none))) else (none)) = some r := by first | (rw [hy141]; with_reducible exact H) | (have H2_ := (Option.bind_some _ _).symm.trans H; rw [hy141]; with_reducible exact H2_) | (have H2_ := (Option.bind_some _ _).symm.trans H; with_reducible exact H2_) | with_reducible exact H | (rw [hy141]; exact H) | exact H
  have Ny141 := Aside0.mk hy141
  clear hy141
  by_cases c3 : ((rd_T37 l0 0).f1).size < 140737488355328
  case neg => rw [if_neg c3] at H; exact absurd H (by simp)
  rw [if_pos c3] at H
  have LMc3 := Aside0.mk c3
  clear c3
  obtain ⟨y145, hy145⟩ : ∃ y_ : List Int, y_ = (bytesOf ((rd_T37 l0 0).f1)) := ⟨_, rfl⟩
  replace H : (if y141.length + y145.length < 140737488355328 then ((some (y141 ++ y145 : List Int)).bind fun y148 => ((some (([((((rd_T37 l0 0).f2).size : Int)) % 256] : List Int) : List Int)).bind fun y151 => (if y148.length + y151.length < 140737488355328 then ((some (y148 ++ y151 : List Int)).bind fun y154 => (if ((rd_T37 l0 0).f2).size < 140737488355328 then ((some (bytesOf ((rd_T37 l0 0).f2) : List Int)).bind fun y157 => (if y154.length + y157.length < 140737488355328 then ((some (y154 ++ y157 : List Int)).bind fun y160 => ((some (([((((rd_T37 l0 0).f3).length : Int)) % 256] : List Int) : List Int)).bind fun y164 => (if y160.length + y164.length < 140737488355328 then (spec_l9Pack.l0 k l0 (y160 ++ y164) 0) else (none)))) else (none))) else (none))) else (none)))) else (none)) = some r := by first | (rw [hy145]; with_reducible exact H) | (have H2_ := (Option.bind_some _ _).symm.trans H; rw [hy145]; with_reducible exact H2_) | (have H2_ := (Option.bind_some _ _).symm.trans H; with_reducible exact H2_) | with_reducible exact H | (rw [hy145]; exact H) | exact H
  have Ny145 := Aside0.mk hy145
  clear hy145
  by_cases c4 : y141.length + y145.length < 140737488355328
  case neg => rw [if_neg c4] at H; exact absurd H (by simp)
  rw [if_pos c4] at H
  have LMc4 := Aside0.mk c4
  clear c4
  obtain ⟨y148, hy148⟩ : ∃ y_ : List Int, y_ = (y141 ++ y145) := ⟨_, rfl⟩
  replace H : ((some (([((((rd_T37 l0 0).f2).size : Int)) % 256] : List Int) : List Int)).bind fun y151 => (if y148.length + y151.length < 140737488355328 then ((some (y148 ++ y151 : List Int)).bind fun y154 => (if ((rd_T37 l0 0).f2).size < 140737488355328 then ((some (bytesOf ((rd_T37 l0 0).f2) : List Int)).bind fun y157 => (if y154.length + y157.length < 140737488355328 then ((some (y154 ++ y157 : List Int)).bind fun y160 => ((some (([((((rd_T37 l0 0).f3).length : Int)) % 256] : List Int) : List Int)).bind fun y164 => (if y160.length + y164.length < 140737488355328 then (spec_l9Pack.l0 k l0 (y160 ++ y164) 0) else (none)))) else (none))) else (none))) else (none))) = some r := by first | (rw [hy148]; with_reducible exact H) | (have H2_ := (Option.bind_some _ _).symm.trans H; rw [hy148]; with_reducible exact H2_) | (have H2_ := (Option.bind_some _ _).symm.trans H; with_reducible exact H2_) | with_reducible exact H | (rw [hy148]; exact H) | exact H
  have Ny148 := Aside0.mk hy148
  clear hy148
  obtain ⟨y151, hy151⟩ : ∃ y_ : List Int, y_ = (([((((rd_T37 l0 0).f2).size : Int)) % 256] : List Int)) := ⟨_, rfl⟩
  replace H : (if y148.length + y151.length < 140737488355328 then ((some (y148 ++ y151 : List Int)).bind fun y154 => (if ((rd_T37 l0 0).f2).size < 140737488355328 then ((some (bytesOf ((rd_T37 l0 0).f2) : List Int)).bind fun y157 => (if y154.length + y157.length < 140737488355328 then ((some (y154 ++ y157 : List Int)).bind fun y160 => ((some (([((((rd_T37 l0 0).f3).length : Int)) % 256] : List Int) : List Int)).bind fun y164 => (if y160.length + y164.length < 140737488355328 then (spec_l9Pack.l0 k l0 (y160 ++ y164) 0) else (none)))) else (none))) else (none))) else (none)) = some r := by first | (rw [hy151]; with_reducible exact H) | (have H2_ := (Option.bind_some _ _).symm.trans H; rw [hy151]; with_reducible exact H2_) | (have H2_ := (Option.bind_some _ _).symm.trans H; with_reducible exact H2_) | with_reducible exact H | (rw [hy151]; exact H) | exact H
  have Ny151 := Aside0.mk hy151
  clear hy151
  by_cases c5 : y148.length + y151.length < 140737488355328
  case neg => rw [if_neg c5] at H; exact absurd H (by simp)
  rw [if_pos c5] at H
  have LMc5 := Aside0.mk c5
  clear c5
  obtain ⟨y154, hy154⟩ : ∃ y_ : List Int, y_ = (y148 ++ y151) := ⟨_, rfl⟩
  replace H : (if ((rd_T37 l0 0).f2).size < 140737488355328 then ((some (bytesOf ((rd_T37 l0 0).f2) : List Int)).bind fun y157 => (if y154.length + y157.length < 140737488355328 then ((some (y154 ++ y157 : List Int)).bind fun y160 => ((some (([((((rd_T37 l0 0).f3).length : Int)) % 256] : List Int) : List Int)).bind fun y164 => (if y160.length + y164.length < 140737488355328 then (spec_l9Pack.l0 k l0 (y160 ++ y164) 0) else (none)))) else (none))) else (none)) = some r := by first | (rw [hy154]; with_reducible exact H) | (have H2_ := (Option.bind_some _ _).symm.trans H; rw [hy154]; with_reducible exact H2_) | (have H2_ := (Option.bind_some _ _).symm.trans H; with_reducible exact H2_) | with_reducible exact H | (rw [hy154]; exact H) | exact H
  have Ny154 := Aside0.mk hy154
  clear hy154
  by_cases c6 : ((rd_T37 l0 0).f2).size < 140737488355328
  case neg => rw [if_neg c6] at H; exact absurd H (by simp)
  rw [if_pos c6] at H
  have LMc6 := Aside0.mk c6
  clear c6
  obtain ⟨y157, hy157⟩ : ∃ y_ : List Int, y_ = (bytesOf ((rd_T37 l0 0).f2)) := ⟨_, rfl⟩
  replace H : (if y154.length + y157.length < 140737488355328 then ((some (y154 ++ y157 : List Int)).bind fun y160 => ((some (([((((rd_T37 l0 0).f3).length : Int)) % 256] : List Int) : List Int)).bind fun y164 => (if y160.length + y164.length < 140737488355328 then (spec_l9Pack.l0 k l0 (y160 ++ y164) 0) else (none)))) else (none)) = some r := by first | (rw [hy157]; with_reducible exact H) | (have H2_ := (Option.bind_some _ _).symm.trans H; rw [hy157]; with_reducible exact H2_) | (have H2_ := (Option.bind_some _ _).symm.trans H; with_reducible exact H2_) | with_reducible exact H | (rw [hy157]; exact H) | exact H
  have Ny157 := Aside0.mk hy157
  clear hy157
  by_cases c7 : y154.length + y157.length < 140737488355328
  case neg => rw [if_neg c7] at H; exact absurd H (by simp)
  rw [if_pos c7] at H
  have LMc7 := Aside0.mk c7
  clear c7
  obtain ⟨y160, hy160⟩ : ∃ y_ : List Int, y_ = (y154 ++ y157) := ⟨_, rfl⟩
  replace H : ((some (([((((rd_T37 l0 0).f3).length : Int)) % 256] : List Int) : List Int)).bind fun y164 => (if y160.length + y164.length < 140737488355328 then (spec_l9Pack.l0 k l0 (y160 ++ y164) 0) else (none))) = some r := by first | (rw [hy160]; with_reducible exact H) | (have H2_ := (Option.bind_some _ _).symm.trans H; rw [hy160]; with_reducible exact H2_) | (have H2_ := (Option.bind_some _ _).symm.trans H; with_reducible exact H2_) | with_reducible exact H | (rw [hy160]; exact H) | exact H
  have Ny160 := Aside0.mk hy160
  clear hy160
  obtain ⟨y164, hy164⟩ : ∃ y_ : List Int, y_ = (([((((rd_T37 l0 0).f3).length : Int)) % 256] : List Int)) := ⟨_, rfl⟩
  replace H : (if y160.length + y164.length < 140737488355328 then (spec_l9Pack.l0 k l0 (y160 ++ y164) 0) else (none)) = some r := by first | (rw [hy164]; with_reducible exact H) | (have H2_ := (Option.bind_some _ _).symm.trans H; rw [hy164]; with_reducible exact H2_) | (have H2_ := (Option.bind_some _ _).symm.trans H; with_reducible exact H2_) | with_reducible exact H | (rw [hy164]; exact H) | exact H
  have Ny164 := Aside0.mk hy164
  clear hy164
  by_cases c8 : y160.length + y164.length < 140737488355328
  case neg => rw [if_neg c8] at H; exact absurd H (by simp)
  rw [if_pos c8] at H
  have LMc8 := Aside0.mk c8
  clear c8
  obtain ⟨y167, hy167⟩ : ∃ y_ : List Int, y_ = (y160 ++ y164) := ⟨_, rfl⟩
  replace H : (spec_l9Pack.l0 k l0 y167 0) = some r := by first | (rw [hy167]; with_reducible exact H) | (have H2_ := (Option.bind_some _ _).symm.trans H; rw [hy167]; with_reducible exact H2_) | (have H2_ := (Option.bind_some _ _).symm.trans H; with_reducible exact H2_) | with_reducible exact H | (rw [hy167]; exact H) | exact H
  have Ny167 := Aside0.mk hy167
  clear hy167
  have H' := Aside0.mk H
  clear H
  go_enter Try.func42, Try.ntmps42
  try go_wp2
  replace HB := Aside0.mk (below_drew1 HB.out)
  have p140 : 0 ≤ (0 : Int) := (by omega)
  have q140 : 0 < (l0.length : Int) := od_
  obtain ⟨ad140, A140_3, c140_3, A140_7, c140_7, e140, hx140_0, hx140_1, hx140_2, hx140_3, hx140_4, hx140_5, hx140_6, hx140_7, hl140_3, hi140_3, hl140_7, hi140_7⟩ := at_T37 HR0.out 0 p140 q140
  have hw140_7 := hx140_7
  (try simp only [Int.toNat_zero, Nat.zero_mul, Addr.add_zero'] at hw140_7)
  have hw140_6 := hx140_6
  (try simp only [Int.toNat_zero, Nat.zero_mul, Addr.add_zero'] at hw140_6)
  have hw140_5 := hx140_5
  (try simp only [Int.toNat_zero, Nat.zero_mul, Addr.add_zero'] at hw140_5)
  have hw140_4 := hx140_4
  (try simp only [Int.toNat_zero, Nat.zero_mul, Addr.add_zero'] at hw140_4)
  have hw140_3 := hx140_3
  (try simp only [Int.toNat_zero, Nat.zero_mul, Addr.add_zero'] at hw140_3)
  have hw140_2 := hx140_2
  (try simp only [Int.toNat_zero, Nat.zero_mul, Addr.add_zero'] at hw140_2)
  have hw140_1 := hx140_1
  (try simp only [Int.toNat_zero, Nat.zero_mul, Addr.add_zero'] at hw140_1)
  have hw140_0 := hx140_0
  (try simp only [Int.toNat_zero, Nat.zero_mul, Addr.add_zero'] at hw140_0)
  cases e140
  have qi140 : (0 < l0.length) = True := eq_true (by omega)
  (try simp only [Int.toNat_zero, Nat.zero_mul, Addr.add_zero'] at hx140_0 hx140_1 hx140_2 hx140_3 hx140_4 hx140_5 hx140_6 hx140_7)
  replace hx140_0 := ck_ HB.out hx140_0
  replace hx140_1 := ck_ HB.out hx140_1
  replace hx140_2 := ck_ HB.out hx140_2
  replace hx140_3 := ck_ HB.out hx140_3
  replace hx140_4 := ck_ HB.out hx140_4
  replace hx140_5 := ck_ HB.out hx140_5
  replace hx140_6 := ck_ HB.out hx140_6
  replace hx140_7 := ck_ HB.out hx140_7
  have HR140_3 := Aside0.mk hi140_3
  have HC140_3 := Aside0.mk hl140_3
  clear hi140_3 hl140_3
  have HR140_7 := Aside0.mk hi140_7
  have HC140_7 := Aside0.mk hl140_7
  clear hi140_7 hl140_7
  replace p140 := eq_true p140
  replace q140 := eq_true q140
  refine start_ (n := 13) (S := fun w' => w'.cell? ad140 = some (.int .i64 ((rd_T37 l0 0).f0)) ∧ w'.cell? ⟨ad140.block, ad140.off + 1, none⟩ = some (.string ((rd_T37 l0 0).f1)) ∧ w'.cell? ⟨ad140.block, ad140.off + 2, none⟩ = some (.string ((rd_T37 l0 0).f2)) ∧ w'.cell? ⟨ad140.block, ad140.off + 3, none⟩ = some (.slice A140_3 ((rd_T37 l0 0).f3).length c140_3) ∧ w'.cell? ⟨ad140.block, ad140.off + 4, none⟩ = some (.int .i64 ((rd_T37 l0 0).f4)) ∧ w'.cell? ⟨ad140.block, ad140.off + 5, none⟩ = some (.int .i64 ((rd_T37 l0 0).f5)) ∧ w'.cell? ⟨ad140.block, ad140.off + 6, none⟩ = some (.int .i64 ((rd_T37 l0 0).f6)) ∧ w'.cell? ⟨ad140.block, ad140.off + 7, none⟩ = some (.slice A140_7 ((rd_T37 l0 0).f7).length c140_7)) (ds := []) #[false, false, false, false, false, false, false, false, false, false, false, false, false] (by kernel_rfl) rfl rfl ⟨(ck_ HB.out hw140_0), (ck_ HB.out hw140_1), (ck_ HB.out hw140_2), (ck_ HB.out hw140_3), (ck_ HB.out hw140_4), (ck_ HB.out hw140_5), (ck_ HB.out hw140_6), (ck_ HB.out hw140_7)⟩ (fun hHeld => ?_); refine with_tabW spec_l9Pack.tab1 spec_l9Pack.bits1 (fun HT_ HW_ => ?_)
  generalize w.drew = w9 at HB HR140_3 HR140_7 hx140_0 hx140_1 hx140_2 hx140_3 hx140_4 hx140_5 hx140_6 hx140_7 hHeld ⊢
  refine pure_ (i := 0) (N := some 5) (v := ?_) (a' := ?_) #[true, false, false, false, false, false, false, false, false, false, false, false, false] rfl rfl (any_of HT_.out (by kernel_rfl)) (fun _ _ _ h => h) (Or.inl ⟨by rfl, ?_⟩) ?_ ?_; rotate_left
  · intro w'; go_simp; all_goals (first | with_reducible rfl | (simp [Instr.field, go_sem]; rfl))
  rotate_left
  · simp only [Act.put, List.setIfInBounds_toArray, List.set_cons_zero, List.set_cons_succ, i64_w, i32_w]; rfl
  refine pure_ (i := 1) (N := some 6) (v := ?_) (a' := ?_) #[true, true, false, false, false, false, false, false, false, false, false, false, false] rfl rfl (any_of HT_.out (by kernel_rfl)) (fun _ _ _ h => h) (Or.inl ⟨by rfl, ?_⟩) ?_ ?_; rotate_left
  · intro w'; go_simp; all_goals (first | with_reducible rfl | (simp [Instr.field, go_sem]; rfl))
  rotate_left
  · simp only [Act.put, List.setIfInBounds_toArray, List.set_cons_zero, List.set_cons_succ, i64_w, i32_w]; rfl
  refine pure_ (i := 2) (N := some 7) (v := ?_) (a' := ?_) #[true, true, true, false, false, false, false, false, false, false, false, false, false] rfl rfl (any_of HT_.out (by kernel_rfl)) (fun _ _ _ h => h) (Or.inl ⟨by rfl, ?_⟩) ?_ ?_; rotate_left
  · intro w'; go_simp; all_goals (first | with_reducible rfl | (simp [Instr.field, go_sem]; rfl))
  rotate_left
  · simp only [Act.put, List.setIfInBounds_toArray, List.set_cons_zero, List.set_cons_succ, i64_w, i32_w]; rfl
  refine pure_ (i := 5) (N := some 10) (v := ?_) (a' := ?_) #[true, true, true, false, false, true, false, false, false, false, false, false, false] rfl rfl (any_of HT_.out (by kernel_rfl)) (fun _ _ _ h => h) (Or.inl ⟨by rfl, ?_⟩) ?_ ?_; rotate_left
  · intro w'; go_simp; all_goals (first | with_reducible rfl | (simp [Instr.field, go_sem]; rfl))
  rotate_left
  · simp only [Act.put, List.setIfInBounds_toArray, List.set_cons_zero, List.set_cons_succ, i64_w, i32_w]; rfl
  refine pure_ (i := 6) (N := some 11) (v := ?_) (a' := ?_) #[true, true, true, false, false, true, true, false, false, false, false, false, false] rfl rfl (any_of HT_.out (by kernel_rfl)) (fun _ _ _ h => h) (Or.inl ⟨by rfl, ?_⟩) ?_ ?_; rotate_left
  · intro w'; go_simp; all_goals (first | with_reducible rfl | (simp [Instr.field, go_sem]; rfl))
  rotate_left
  · simp only [Act.put, List.setIfInBounds_toArray, List.set_cons_zero, List.set_cons_succ, i64_w, i32_w]; rfl
  refine pure_ (i := 7) (N := some 12) (v := ?_) (a' := ?_) #[true, true, true, false, false, true, true, true, false, false, false, false, false] rfl rfl (any_of HT_.out (by kernel_rfl)) (fun _ _ _ h => h) (Or.inl ⟨by rfl, ?_⟩) ?_ ?_; rotate_left
  · intro w'; go_simp; all_goals (first | with_reducible rfl | (simp [Instr.field, go_sem]; rfl))
  rotate_left
  · simp only [Act.put, List.setIfInBounds_toArray, List.set_cons_zero, List.set_cons_succ, i64_w, i32_w]; rfl
  refine take_ (i := 3) (N := some 8) (v := ?_) (a' := ?_) #[true, true, true, true, false, true, true, true, false, false, false, false, false] rfl rfl (take_ofW HT_.out HW_.out (by kernel_rfl)) (fun _ _ _ h => h) (Or.inl ⟨by rfl, ?_⟩) hHeld ?_ ?_; rotate_left
  · rintro w' ⟨s0, s1, s2, s3, s4, s5, s6, s7⟩; go_simp; all_goals (first | with_reducible rfl | (simp [Instr.field, go_sem]; rfl))
  rotate_left
  · simp only [Act.put, List.setIfInBounds_toArray, List.set_cons_zero, List.set_cons_succ, i64_w, i32_w]; rfl
  refine pure_ (i := 4) (N := some 9) (v := ?_) (a' := ?_) #[true, true, true, true, true, true, true, true, false, false, false, false, false] rfl rfl (any_of HT_.out (by kernel_rfl)) (fun _ _ _ h => h) (Or.inl ⟨by rfl, ?_⟩) ?_ ?_; rotate_left
  · intro w'; go_simp; all_goals (first | with_reducible rfl | (simp [Instr.field, go_sem]; rfl))
  rotate_left
  · simp only [Act.put, List.setIfInBounds_toArray, List.set_cons_zero, List.set_cons_succ, i64_w, i32_w]; rfl
  refine take_ (i := 8) (N := some 13) (v := ?_) (a' := ?_) #[true, true, true, true, true, true, true, true, true, false, false, false, false] rfl rfl (take_ofW HT_.out HW_.out (by kernel_rfl)) (fun _ _ _ h => h) (Or.inl ⟨by rfl, ?_⟩) hHeld ?_ ?_; rotate_left
  · rintro w' ⟨s0, s1, s2, s3, s4, s5, s6, s7⟩; go_simp; all_goals (first | with_reducible rfl | (simp [Instr.field, go_sem]; rfl))
  rotate_left
  · simp only [Act.put, List.setIfInBounds_toArray, List.set_cons_zero, List.set_cons_succ, i64_w, i32_w]; rfl
  refine pure_ (i := 9) (N := some 14) (v := ?_) (a' := ?_) #[true, true, true, true, true, true, true, true, true, true, false, false, false] rfl rfl (any_of HT_.out (by kernel_rfl)) (fun _ _ _ h => h) (Or.inl ⟨by rfl, ?_⟩) ?_ ?_; rotate_left
  · intro w'; go_simp; all_goals (first | with_reducible rfl | (simp [Instr.field, go_sem]; rfl))
  rotate_left
  · simp only [Act.put, List.setIfInBounds_toArray, List.set_cons_zero, List.set_cons_succ, i64_w, i32_w]; rfl
  refine pure_ (i := 10) (N := some 15) (v := ?_) (a' := ?_) #[true, true, true, true, true, true, true, true, true, true, true, false, false] rfl rfl (any_of HT_.out (by kernel_rfl)) (fun _ _ _ h => h) (Or.inl ⟨by rfl, ?_⟩) ?_ ?_; rotate_left
  · intro w'; go_simp; all_goals (first | with_reducible rfl | (simp [Instr.field, go_sem]; rfl))
  rotate_left
  · simp only [Act.put, List.setIfInBounds_toArray, List.set_cons_zero, List.set_cons_succ, i64_w, i32_w]; rfl
  refine one_ (i := 11) (N := some 16) #[true, true, true, true, true, true, true, true, true, true, true, true, false] rfl rfl (one_of HT_.out (by kernel_rfl)) (by decide) (fun K hK => ?_)
  refine Kd.R_lit_step (Kd.int .u8) _ 5 ?hg (N := 16) ?hd (xs := ([0, 0, ((rd_T37 l0 0).f0) % 256, ((((rd_T37 l0 0).f1).size : Int)) % 256] : List Int)) (inner := [.int .u8 0, .int .u8 0, .int .u8 (((rd_T37 l0 0).f0) % 256), .int .u8 (((((rd_T37 l0 0).f1).size : Int)) % 256)]) (ok := fun _ => True) (okp := fun _ => True) ?hr ?hp (fun _ hk => hk) trivial (Below.refl _ _) (Nat.le_refl _) (by simp) ?_; (case hd => rfl); (case hg => rfl); (case hr => first | (go_simp; done) | (go_simp; rfl)); (case hp => exact (Reps.one (show Kd.M (Kd.int .u8) _ _ _ 0 [.int .u8 0] from rfl) (Reps.one (show Kd.M (Kd.int .u8) _ _ _ 0 [.int .u8 0] from rfl) (Reps.one (show Kd.M (Kd.int .u8) _ _ _ (((rd_T37 l0 0).f0) % 256) [.int .u8 (((rd_T37 l0 0).f0) % 256)] from rfl) (Reps.one (show Kd.M (Kd.int .u8) _ _ _ (((((rd_T37 l0 0).f1).size : Int)) % 256) [.int .u8 (((((rd_T37 l0 0).f1).size : Int)) % 256)] from rfl) (Reps.none _ _))))))
  intro v142 w10 ho11 hb hg_ hnew_
  clear hg_ hnew_
  (first | rw [← Ny141.out] at ho11 | (simp only [Int.reduceToNat] at ho11; rw [← Ny141.out] at ho11))
  have HO143 := Aside0.mk (Kd.R_lower ho11 (below_size (HB_up HB.out)))
  replace HB := Aside0.mk (below_step (HB_up HB.out) hb)
  clear hb ho11
  refine hK.out _ _ ⟨(ck_ HB.out hw140_0), (ck_ HB.out hw140_1), (ck_ HB.out hw140_2), (ck_ HB.out hw140_3), (ck_ HB.out hw140_4), (ck_ HB.out hw140_5), (ck_ HB.out hw140_6), (ck_ HB.out hw140_7)⟩ (fun hHeld => ?_)
  clear hK K
  refine norm_ (a' := ?_) ?_ ?_
  rotate_left
  · show Act.put _ (some 16) _ = _
    simp only [Act.put, List.setIfInBounds_toArray, List.set_cons_zero, List.set_cons_succ, i64_w, i32_w]
    rfl
  refine pure_ (i := 12) (N := some 3) (v := ?_) (a' := ?_) #[true, true, true, true, true, true, true, true, true, true, true, true, true] rfl rfl (any_of HT_.out (by kernel_rfl)) (fun _ _ _ h => h) (Or.inl ⟨by rfl, ?_⟩) ?_ ?_; rotate_left
  · intro w'; go_simp; all_goals (first | with_reducible rfl | (simp [Instr.field, go_sem]; rfl))
  rotate_left
  · simp only [Act.put, List.setIfInBounds_toArray, List.set_cons_zero, List.set_cons_succ, i64_w, i32_w]; rfl
  refine done_ (done_of HT_.out (by kernel_rfl)) ?_
  obtain ⟨Ao12, co12, eo12⟩ := Kd.R_slice HO143.out
  subst eo12
  try go_wp2
  replace HO143 := Aside0.mk (Kd.R_drew HO143.out)
  replace HB := Aside0.mk (below_drew1 HB.out)
  have p144 : 0 ≤ (0 : Int) := (by omega)
  have q144 : 0 < (l0.length : Int) := od_
  obtain ⟨ad144, A144_3, c144_3, A144_7, c144_7, e144, hx144_0, hx144_1, hx144_2, hx144_3, hx144_4, hx144_5, hx144_6, hx144_7, hl144_3, hi144_3, hl144_7, hi144_7⟩ := at_T37 HR0.out 0 p144 q144
  have hw144_7 := hx144_7
  (try simp only [Int.toNat_zero, Nat.zero_mul, Addr.add_zero'] at hw144_7)
  have hw144_6 := hx144_6
  (try simp only [Int.toNat_zero, Nat.zero_mul, Addr.add_zero'] at hw144_6)
  have hw144_5 := hx144_5
  (try simp only [Int.toNat_zero, Nat.zero_mul, Addr.add_zero'] at hw144_5)
  have hw144_4 := hx144_4
  (try simp only [Int.toNat_zero, Nat.zero_mul, Addr.add_zero'] at hw144_4)
  have hw144_3 := hx144_3
  (try simp only [Int.toNat_zero, Nat.zero_mul, Addr.add_zero'] at hw144_3)
  have hw144_2 := hx144_2
  (try simp only [Int.toNat_zero, Nat.zero_mul, Addr.add_zero'] at hw144_2)
  have hw144_1 := hx144_1
  (try simp only [Int.toNat_zero, Nat.zero_mul, Addr.add_zero'] at hw144_1)
  have hw144_0 := hx144_0
  (try simp only [Int.toNat_zero, Nat.zero_mul, Addr.add_zero'] at hw144_0)
  obtain rfl : ad140 = ad144 := (by injection e144)
  have qi144 : (0 < l0.length) = True := eq_true (by omega)
  (try simp only [Int.toNat_zero, Nat.zero_mul, Addr.add_zero'] at hx144_0 hx144_1 hx144_2 hx144_3 hx144_4 hx144_5 hx144_6 hx144_7)
  replace hx144_0 := ck_ HB.out hx144_0
  replace hx144_1 := ck_ HB.out hx144_1
  replace hx144_2 := ck_ HB.out hx144_2
  replace hx144_3 := ck_ HB.out hx144_3
  replace hx144_4 := ck_ HB.out hx144_4
  replace hx144_5 := ck_ HB.out hx144_5
  replace hx144_6 := ck_ HB.out hx144_6
  replace hx144_7 := ck_ HB.out hx144_7
  have HR144_3 := Aside0.mk hi144_3
  have HC144_3 := Aside0.mk hl144_3
  clear hi144_3 hl144_3
  have HR144_7 := Aside0.mk hi144_7
  have HC144_7 := Aside0.mk hl144_7
  clear hi144_7 hl144_7
  replace p144 := eq_true p144
  replace q144 := eq_true q144
  refine start_ (n := 22) (S := fun w' => w'.cell? ad140 = some (.int .i64 ((rd_T37 l0 0).f0)) ∧ w'.cell? ⟨ad140.block, ad140.off + 1, none⟩ = some (.string ((rd_T37 l0 0).f1)) ∧ w'.cell? ⟨ad140.block, ad140.off + 2, none⟩ = some (.string ((rd_T37 l0 0).f2)) ∧ w'.cell? ⟨ad140.block, ad140.off + 3, none⟩ = some (.slice A144_3 ((rd_T37 l0 0).f3).length c144_3) ∧ w'.cell? ⟨ad140.block, ad140.off + 4, none⟩ = some (.int .i64 ((rd_T37 l0 0).f4)) ∧ w'.cell? ⟨ad140.block, ad140.off + 5, none⟩ = some (.int .i64 ((rd_T37 l0 0).f5)) ∧ w'.cell? ⟨ad140.block, ad140.off + 6, none⟩ = some (.int .i64 ((rd_T37 l0 0).f6)) ∧ w'.cell? ⟨ad140.block, ad140.off + 7, none⟩ = some (.slice A144_7 ((rd_T37 l0 0).f7).length c144_7)) (ds := []) #[false, false, false, false, false, false, false, false, false, false, false, false, false, false, false, false, false, false, false, false, false, false] (by kernel_rfl) rfl rfl ⟨(ck_ HB.out hw144_0), (ck_ HB.out hw144_1), (ck_ HB.out hw144_2), (ck_ HB.out hw144_3), (ck_ HB.out hw144_4), (ck_ HB.out hw144_5), (ck_ HB.out hw144_6), (ck_ HB.out hw144_7)⟩ (fun hHeld => ?_); refine with_tabW spec_l9Pack.tab2 spec_l9Pack.bits2 (fun HT_ HW_ => ?_)
  generalize w10.drew = w13 at HO143 HB HR144_3 HR144_7 hx144_0 hx144_1 hx144_2 hx144_3 hx144_4 hx144_5 hx144_6 hx144_7 hHeld ⊢
  refine pure_ (i := 0) (N := some 17) (v := ?_) (a' := ?_) #[true, false, false, false, false, false, false, false, false, false, false, false, false, false, false, false, false, false, false, false, false, false] rfl rfl (any_of HT_.out (by kernel_rfl)) (fun _ _ _ h => h) (Or.inl ⟨by rfl, ?_⟩) ?_ ?_; rotate_left
  · intro w'; go_simp; all_goals (first | with_reducible rfl | (simp [Instr.field, go_sem]; rfl))
  rotate_left
  · simp only [Act.put, List.setIfInBounds_toArray, List.set_cons_zero, List.set_cons_succ, i64_w, i32_w]; rfl
  refine pure_ (i := 1) (N := some 18) (v := ?_) (a' := ?_) #[true, true, false, false, false, false, false, false, false, false, false, false, false, false, false, false, false, false, false, false, false, false] rfl rfl (any_of HT_.out (by kernel_rfl)) (fun _ _ _ h => h) (Or.inl ⟨by rfl, ?_⟩) ?_ ?_; rotate_left
  · intro w'; go_simp; all_goals (first | with_reducible rfl | (simp [Instr.field, go_sem]; rfl))
  rotate_left
  · simp only [Act.put, List.setIfInBounds_toArray, List.set_cons_zero, List.set_cons_succ, i64_w, i32_w]; rfl
  refine pure_ (i := 2) (N := some 19) (v := ?_) (a' := ?_) #[true, true, true, false, false, false, false, false, false, false, false, false, false, false, false, false, false, false, false, false, false, false] rfl rfl (any_of HT_.out (by kernel_rfl)) (fun _ _ _ h => h) (Or.inl ⟨by rfl, ?_⟩) ?_ ?_; rotate_left
  · intro w'; go_simp; all_goals (first | with_reducible rfl | (simp [Instr.field, go_sem]; rfl))
  rotate_left
  · simp only [Act.put, List.setIfInBounds_toArray, List.set_cons_zero, List.set_cons_succ, i64_w, i32_w]; rfl
  refine pure_ (i := 3) (N := some 20) (v := ?_) (a' := ?_) #[true, true, true, true, false, false, false, false, false, false, false, false, false, false, false, false, false, false, false, false, false, false] rfl rfl (any_of HT_.out (by kernel_rfl)) (fun _ _ _ h => h) (Or.inl ⟨by rfl, ?_⟩) ?_ ?_; rotate_left
  · intro w'; go_simp; all_goals (first | with_reducible rfl | (simp [Instr.field, go_sem]; rfl))
  rotate_left
  · simp only [Act.put, List.setIfInBounds_toArray, List.set_cons_zero, List.set_cons_succ, i64_w, i32_w]; rfl
  refine pure_ (i := 7) (N := some 24) (v := ?_) (a' := ?_) #[true, true, true, true, false, false, false, true, false, false, false, false, false, false, false, false, false, false, false, false, false, false] rfl rfl (any_of HT_.out (by kernel_rfl)) (fun _ _ _ h => h) (Or.inl ⟨by rfl, ?_⟩) ?_ ?_; rotate_left
  · intro w'; go_simp; all_goals (first | with_reducible rfl | (simp [Instr.field, go_sem]; rfl))
  rotate_left
  · simp only [Act.put, List.setIfInBounds_toArray, List.set_cons_zero, List.set_cons_succ, i64_w, i32_w]; rfl
  refine pure_ (i := 8) (N := some 25) (v := ?_) (a' := ?_) #[true, true, true, true, false, false, false, true, true, false, false, false, false, false, false, false, false, false, false, false, false, false] rfl rfl (any_of HT_.out (by kernel_rfl)) (fun _ _ _ h => h) (Or.inl ⟨by rfl, ?_⟩) ?_ ?_; rotate_left
  · intro w'; go_simp; all_goals (first | with_reducible rfl | (simp [Instr.field, go_sem]; rfl))
  rotate_left
  · simp only [Act.put, List.setIfInBounds_toArray, List.set_cons_zero, List.set_cons_succ, i64_w, i32_w]; rfl
  refine pure_ (i := 9) (N := some 26) (v := ?_) (a' := ?_) #[true, true, true, true, false, false, false, true, true, true, false, false, false, false, false, false, false, false, false, false, false, false] rfl rfl (any_of HT_.out (by kernel_rfl)) (fun _ _ _ h => h) (Or.inl ⟨by rfl, ?_⟩) ?_ ?_; rotate_left
  · intro w'; go_simp; all_goals (first | with_reducible rfl | (simp [Instr.field, go_sem]; rfl))
  rotate_left
  · simp only [Act.put, List.setIfInBounds_toArray, List.set_cons_zero, List.set_cons_succ, i64_w, i32_w]; rfl
  refine pure_ (i := 15) (N := some 32) (v := ?_) (a' := ?_) #[true, true, true, true, false, false, false, true, true, true, false, false, false, false, false, true, false, false, false, false, false, false] rfl rfl (any_of HT_.out (by kernel_rfl)) (fun _ _ _ h => h) (Or.inl ⟨by rfl, ?_⟩) ?_ ?_; rotate_left
  · intro w'; go_simp; all_goals (first | with_reducible rfl | (simp [Instr.field, go_sem]; rfl))
  rotate_left
  · simp only [Act.put, List.setIfInBounds_toArray, List.set_cons_zero, List.set_cons_succ, i64_w, i32_w]; rfl
  refine pure_ (i := 16) (N := some 33) (v := ?_) (a' := ?_) #[true, true, true, true, false, false, false, true, true, true, false, false, false, false, false, true, true, false, false, false, false, false] rfl rfl (any_of HT_.out (by kernel_rfl)) (fun _ _ _ h => h) (Or.inl ⟨by rfl, ?_⟩) ?_ ?_; rotate_left
  · intro w'; go_simp; all_goals (first | with_reducible rfl | (simp [Instr.field, go_sem]; rfl))
  rotate_left
  · simp only [Act.put, List.setIfInBounds_toArray, List.set_cons_zero, List.set_cons_succ, i64_w, i32_w]; rfl
  refine pure_ (i := 17) (N := some 34) (v := ?_) (a' := ?_) #[true, true, true, true, false, false, false, true, true, true, false, false, false, false, false, true, true, true, false, false, false, false] rfl rfl (any_of HT_.out (by kernel_rfl)) (fun _ _ _ h => h) (Or.inl ⟨by rfl, ?_⟩) ?_ ?_; rotate_left
  · intro w'; go_simp; all_goals (first | with_reducible rfl | (simp [Instr.field, go_sem]; rfl))
  rotate_left
  · simp only [Act.put, List.setIfInBounds_toArray, List.set_cons_zero, List.set_cons_succ, i64_w, i32_w]; rfl
  refine take_ (i := 4) (N := some 21) (v := ?_) (a' := ?_) #[true, true, true, true, true, false, false, true, true, true, false, false, false, false, false, true, true, true, false, false, false, false] rfl rfl (take_ofW HT_.out HW_.out (by kernel_rfl)) (fun _ _ _ h => h) (Or.inl ⟨by rfl, ?_⟩) hHeld ?_ ?_; rotate_left
  · rintro w' ⟨s0, s1, s2, s3, s4, s5, s6, s7⟩; go_simp; all_goals (first | with_reducible rfl | (simp [Instr.field, go_sem]; rfl))
  rotate_left
  · simp only [Act.put, List.setIfInBounds_toArray, List.set_cons_zero, List.set_cons_succ, i64_w, i32_w]; rfl
  refine take_ (i := 10) (N := some 27) (v := ?_) (a' := ?_) #[true, true, true, true, true, false, false, true, true, true, true, false, false, false, false, true, true, true, false, false, false, false] rfl rfl (take_ofW HT_.out HW_.out (by kernel_rfl)) (fun _ _ _ h => h) (Or.inl ⟨by rfl, ?_⟩) hHeld ?_ ?_; rotate_left
  · rintro w' ⟨s0, s1, s2, s3, s4, s5, s6, s7⟩; go_simp; all_goals (first | with_reducible rfl | (simp [Instr.field, go_sem]; rfl))
  rotate_left
  · simp only [Act.put, List.setIfInBounds_toArray, List.set_cons_zero, List.set_cons_succ, i64_w, i32_w]; rfl
  refine pure_ (i := 11) (N := some 28) (v := ?_) (a' := ?_) #[true, true, true, true, true, false, false, true, true, true, true, true, false, false, false, true, true, true, false, false, false, false] rfl rfl (any_of HT_.out (by kernel_rfl)) (fun _ _ _ h => h) (Or.inl ⟨by rfl, ?_⟩) ?_ ?_; rotate_left
  · intro w'; go_simp; all_goals (first | with_reducible rfl | (simp [Instr.field, go_sem]; rfl))
  rotate_left
  · simp only [Act.put, List.setIfInBounds_toArray, List.set_cons_zero, List.set_cons_succ, i64_w, i32_w]; rfl
  refine pure_ (i := 12) (N := some 29) (v := ?_) (a' := ?_) #[true, true, true, true, true, false, false, true, true, true, true, true, true, false, false, true, true, true, false, false, false, false] rfl rfl (any_of HT_.out (by kernel_rfl)) (fun _ _ _ h => h) (Or.inl ⟨by rfl, ?_⟩) ?_ ?_; rotate_left
  · intro w'; go_simp; all_goals (first | with_reducible rfl | (simp [Instr.field, go_sem]; rfl))
  rotate_left
  · simp only [Act.put, List.setIfInBounds_toArray, List.set_cons_zero, List.set_cons_succ, i64_w, i32_w]; rfl
  refine take_ (i := 18) (N := some 35) (v := ?_) (a' := ?_) #[true, true, true, true, true, false, false, true, true, true, true, true, true, false, false, true, true, true, true, false, false, false] rfl rfl (take_ofW HT_.out HW_.out (by kernel_rfl)) (fun _ _ _ h => h) (Or.inl ⟨by rfl, ?_⟩) hHeld ?_ ?_; rotate_left
  · rintro w' ⟨s0, s1, s2, s3, s4, s5, s6, s7⟩; go_simp; all_goals (first | with_reducible rfl | (simp [Instr.field, go_sem]; rfl))
  rotate_left
  · simp only [Act.put, List.setIfInBounds_toArray, List.set_cons_zero, List.set_cons_succ, i64_w, i32_w]; rfl
  refine join_ (σ := Value × Value × Value × Value × Value) 2 #[true, true, true, true, true, true, true, true, true, true, true, true, true, true, true, true, true, true, true, true, false, false] (fun s_ => [(22, s_.1), (23, s_.2.1), (30, s_.2.2.1), (31, s_.2.2.2.1), (36, s_.2.2.2.2)]) (fun s_ w' => (w'.cell? ad140 = some (.int .i64 ((rd_T37 l0 0).f0)) ∧ w'.cell? ⟨ad140.block, ad140.off + 1, none⟩ = some (.string ((rd_T37 l0 0).f1)) ∧ w'.cell? ⟨ad140.block, ad140.off + 2, none⟩ = some (.string ((rd_T37 l0 0).f2)) ∧ w'.cell? ⟨ad140.block, ad140.off + 3, none⟩ = some (.slice A144_3 ((rd_T37 l0 0).f3).length c144_3) ∧ w'.cell? ⟨ad140.block, ad140.off + 4, none⟩ = some (.int .i64 ((rd_T37 l0 0).f4)) ∧ w'.cell? ⟨ad140.block, ad140.off + 5, none⟩ = some (.int .i64 ((rd_T37 l0 0).f5)) ∧ w'.cell? ⟨ad140.block, ad140.off + 6, none⟩ = some (.int .i64 ((rd_T37 l0 0).f6)) ∧ w'.cell? ⟨ad140.block, ad140.off + 7, none⟩ = some (.slice A144_7 ((rd_T37 l0 0).f7).length c144_7)) ∧ (Kd.V (Kd.int .u8) 5 w' w.heap.size (fun k_ => some k_ ≠ (s_.2.2.1 : Value).ownBlock ∧ some k_ ≠ (s_.2.2.2.1 : Value).ownBlock) s_.1 y145) ∧ (Kd.R (Kd.int .u8) 5 w' w.heap.size (fun k_ => some k_ ≠ (s_.2.2.2.1 : Value).ownBlock) s_.2.2.1 y151) ∧ (Kd.R (Kd.int .u8) 5 w' w.heap.size (fun k_ => some k_ ≠ (s_.2.2.1 : Value).ownBlock) s_.2.2.2.1 y154) ∧ (Kd.V (Kd.int .u8) 5 w' w.heap.size (fun k_ => some k_ ≠ (s_.2.2.1 : Value).ownBlock ∧ some k_ ≠ (s_.2.2.2.1 : Value).ownBlock) s_.2.2.2.2 y157) ∧ (Below w.heap.size w w')) ?_ ?_
  rotate_left
  ·
   intro hJ5_6_13_14_19
   refine join_ (σ := Value × Value × Value × Value) 3 #[true, true, true, true, true, true, true, true, true, true, true, true, true, true, true, true, true, true, true, false, false, false] (fun s_ => [(22, s_.1), (23, s_.2.1), (30, s_.2.2.1), (31, s_.2.2.2)]) (fun s_ w' => (w'.cell? ad140 = some (.int .i64 ((rd_T37 l0 0).f0)) ∧ w'.cell? ⟨ad140.block, ad140.off + 1, none⟩ = some (.string ((rd_T37 l0 0).f1)) ∧ w'.cell? ⟨ad140.block, ad140.off + 2, none⟩ = some (.string ((rd_T37 l0 0).f2)) ∧ w'.cell? ⟨ad140.block, ad140.off + 3, none⟩ = some (.slice A144_3 ((rd_T37 l0 0).f3).length c144_3) ∧ w'.cell? ⟨ad140.block, ad140.off + 4, none⟩ = some (.int .i64 ((rd_T37 l0 0).f4)) ∧ w'.cell? ⟨ad140.block, ad140.off + 5, none⟩ = some (.int .i64 ((rd_T37 l0 0).f5)) ∧ w'.cell? ⟨ad140.block, ad140.off + 6, none⟩ = some (.int .i64 ((rd_T37 l0 0).f6)) ∧ w'.cell? ⟨ad140.block, ad140.off + 7, none⟩ = some (.slice A144_7 ((rd_T37 l0 0).f7).length c144_7)) ∧ (Kd.V (Kd.int .u8) 5 w' w.heap.size (fun k_ => some k_ ≠ (s_.2.2.1 : Value).ownBlock ∧ some k_ ≠ (s_.2.2.2 : Value).ownBlock) s_.1 y145) ∧ (Kd.R (Kd.int .u8) 5 w' w.heap.size (fun k_ => some k_ ≠ (s_.2.2.2 : Value).ownBlock) s_.2.2.1 y151) ∧ (Kd.R (Kd.int .u8) 5 w' w.heap.size (fun k_ => some k_ ≠ (s_.2.2.1 : Value).ownBlock) s_.2.2.2 y154) ∧ (Below w.heap.size w w')) ?_ ?_
   rotate_left
   ·
    intro hJ5_6_13_14
    refine join_ (σ := Value × Value × Value × Value) 3 #[true, true, true, true, true, true, true, true, true, true, true, true, true, true, false, true, true, true, true, true, false, false] (fun s_ => [(22, s_.1), (23, s_.2.1), (30, s_.2.2.1), (36, s_.2.2.2)]) (fun s_ w' => (w'.cell? ad140 = some (.int .i64 ((rd_T37 l0 0).f0)) ∧ w'.cell? ⟨ad140.block, ad140.off + 1, none⟩ = some (.string ((rd_T37 l0 0).f1)) ∧ w'.cell? ⟨ad140.block, ad140.off + 2, none⟩ = some (.string ((rd_T37 l0 0).f2)) ∧ w'.cell? ⟨ad140.block, ad140.off + 3, none⟩ = some (.slice A144_3 ((rd_T37 l0 0).f3).length c144_3) ∧ w'.cell? ⟨ad140.block, ad140.off + 4, none⟩ = some (.int .i64 ((rd_T37 l0 0).f4)) ∧ w'.cell? ⟨ad140.block, ad140.off + 5, none⟩ = some (.int .i64 ((rd_T37 l0 0).f5)) ∧ w'.cell? ⟨ad140.block, ad140.off + 6, none⟩ = some (.int .i64 ((rd_T37 l0 0).f6)) ∧ w'.cell? ⟨ad140.block, ad140.off + 7, none⟩ = some (.slice A144_7 ((rd_T37 l0 0).f7).length c144_7)) ∧ (Kd.V (Kd.int .u8) 5 w' w.heap.size (fun k_ => some k_ ≠ (s_.2.1 : Value).ownBlock ∧ some k_ ≠ (s_.2.2.1 : Value).ownBlock) s_.1 y145) ∧ (Kd.R (Kd.int .u8) 5 w' w.heap.size (fun k_ => some k_ ≠ (s_.2.2.1 : Value).ownBlock) s_.2.1 y148) ∧ (Kd.R (Kd.int .u8) 5 w' w.heap.size (fun k_ => some k_ ≠ (s_.2.1 : Value).ownBlock) s_.2.2.1 y151) ∧ (Kd.V (Kd.int .u8) 5 w' w.heap.size (fun k_ => some k_ ≠ (s_.2.1 : Value).ownBlock ∧ some k_ ≠ (s_.2.2.1 : Value).ownBlock) s_.2.2.2 y157) ∧ (Below w.heap.size w w')) ?_ ?_
    rotate_left
    ·
     intro hJ5_6_13_19
     refine join_ (σ := Value × Value × Value) 4 #[true, true, true, true, true, true, true, true, true, true, true, true, true, true, false, true, true, true, true, false, false, false] (fun s_ => [(22, s_.1), (23, s_.2.1), (30, s_.2.2)]) (fun s_ w' => (w'.cell? ad140 = some (.int .i64 ((rd_T37 l0 0).f0)) ∧ w'.cell? ⟨ad140.block, ad140.off + 1, none⟩ = some (.string ((rd_T37 l0 0).f1)) ∧ w'.cell? ⟨ad140.block, ad140.off + 2, none⟩ = some (.string ((rd_T37 l0 0).f2)) ∧ w'.cell? ⟨ad140.block, ad140.off + 3, none⟩ = some (.slice A144_3 ((rd_T37 l0 0).f3).length c144_3) ∧ w'.cell? ⟨ad140.block, ad140.off + 4, none⟩ = some (.int .i64 ((rd_T37 l0 0).f4)) ∧ w'.cell? ⟨ad140.block, ad140.off + 5, none⟩ = some (.int .i64 ((rd_T37 l0 0).f5)) ∧ w'.cell? ⟨ad140.block, ad140.off + 6, none⟩ = some (.int .i64 ((rd_T37 l0 0).f6)) ∧ w'.cell? ⟨ad140.block, ad140.off + 7, none⟩ = some (.slice A144_7 ((rd_T37 l0 0).f7).length c144_7)) ∧ (Kd.V (Kd.int .u8) 5 w' w.heap.size (fun k_ => some k_ ≠ (s_.2.1 : Value).ownBlock ∧ some k_ ≠ (s_.2.2 : Value).ownBlock) s_.1 y145) ∧ (Kd.R (Kd.int .u8) 5 w' w.heap.size (fun k_ => some k_ ≠ (s_.2.2 : Value).ownBlock) s_.2.1 y148) ∧ (Kd.R (Kd.int .u8) 5 w' w.heap.size (fun k_ => some k_ ≠ (s_.2.1 : Value).ownBlock) s_.2.2 y151) ∧ (Below w.heap.size w w')) ?_ ?_
     rotate_left
     ·
      intro hJ5_6_13
      refine join_ (σ := Value × Value × Value) 4 #[true, true, true, true, true, true, true, true, true, true, true, true, true, false, false, true, true, true, true, true, false, false] (fun s_ => [(22, s_.1), (23, s_.2.1), (36, s_.2.2)]) (fun s_ w' => (w'.cell? ad140 = some (.int .i64 ((rd_T37 l0 0).f0)) ∧ w'.cell? ⟨ad140.block, ad140.off + 1, none⟩ = some (.string ((rd_T37 l0 0).f1)) ∧ w'.cell? ⟨ad140.block, ad140.off + 2, none⟩ = some (.string ((rd_T37 l0 0).f2)) ∧ w'.cell? ⟨ad140.block, ad140.off + 3, none⟩ = some (.slice A144_3 ((rd_T37 l0 0).f3).length c144_3) ∧ w'.cell? ⟨ad140.block, ad140.off + 4, none⟩ = some (.int .i64 ((rd_T37 l0 0).f4)) ∧ w'.cell? ⟨ad140.block, ad140.off + 5, none⟩ = some (.int .i64 ((rd_T37 l0 0).f5)) ∧ w'.cell? ⟨ad140.block, ad140.off + 6, none⟩ = some (.int .i64 ((rd_T37 l0 0).f6)) ∧ w'.cell? ⟨ad140.block, ad140.off + 7, none⟩ = some (.slice A144_7 ((rd_T37 l0 0).f7).length c144_7)) ∧ (Kd.V (Kd.int .u8) 5 w' w.heap.size (fun k_ => some k_ ≠ (s_.2.1 : Value).ownBlock) s_.1 y145) ∧ (Kd.R (Kd.int .u8) 5 w' w.heap.size (fun _ => True) s_.2.1 y148) ∧ (Kd.V (Kd.int .u8) 5 w' w.heap.size (fun k_ => some k_ ≠ (s_.2.1 : Value).ownBlock) s_.2.2 y157) ∧ (Below w.heap.size w w')) ?_ ?_
      rotate_left
      ·
       intro hJ5_6_19
       refine join_ (σ := Value × Value × Value) 4 #[true, true, true, true, true, true, false, true, true, true, true, true, true, true, false, true, true, true, true, true, false, false] (fun s_ => [(22, s_.1), (30, s_.2.1), (36, s_.2.2)]) (fun s_ w' => (w'.cell? ad140 = some (.int .i64 ((rd_T37 l0 0).f0)) ∧ w'.cell? ⟨ad140.block, ad140.off + 1, none⟩ = some (.string ((rd_T37 l0 0).f1)) ∧ w'.cell? ⟨ad140.block, ad140.off + 2, none⟩ = some (.string ((rd_T37 l0 0).f2)) ∧ w'.cell? ⟨ad140.block, ad140.off + 3, none⟩ = some (.slice A144_3 ((rd_T37 l0 0).f3).length c144_3) ∧ w'.cell? ⟨ad140.block, ad140.off + 4, none⟩ = some (.int .i64 ((rd_T37 l0 0).f4)) ∧ w'.cell? ⟨ad140.block, ad140.off + 5, none⟩ = some (.int .i64 ((rd_T37 l0 0).f5)) ∧ w'.cell? ⟨ad140.block, ad140.off + 6, none⟩ = some (.int .i64 ((rd_T37 l0 0).f6)) ∧ w'.cell? ⟨ad140.block, ad140.off + 7, none⟩ = some (.slice A144_7 ((rd_T37 l0 0).f7).length c144_7)) ∧ (Kd.R (Kd.int .u8) 5 w' w.heap.size (fun k_ => some k_ ≠ (s_.2.1 : Value).ownBlock) (.slice Ao12 y141.length co12) y141) ∧ (Kd.V (Kd.int .u8) 5 w' w.heap.size (fun k_ => some k_ ≠ (.slice Ao12 y141.length co12 : Value).ownBlock ∧ some k_ ≠ (s_.2.1 : Value).ownBlock) s_.1 y145) ∧ (Kd.R (Kd.int .u8) 5 w' w.heap.size (fun k_ => some k_ ≠ (.slice Ao12 y141.length co12 : Value).ownBlock) s_.2.1 y151) ∧ (Kd.V (Kd.int .u8) 5 w' w.heap.size (fun k_ => some k_ ≠ (.slice Ao12 y141.length co12 : Value).ownBlock ∧ some k_ ≠ (s_.2.1 : Value).ownBlock) s_.2.2 y157) ∧ (Below w.heap.size w w')) ?_ ?_
       rotate_left
       ·
        intro hJ5_13_19
        refine join_ (σ := Value × Value) 5 #[true, true, true, true, true, true, true, true, true, true, true, true, true, false, false, true, true, true, true, false, false, false] (fun s_ => [(22, s_.1), (23, s_.2)]) (fun s_ w' => (w'.cell? ad140 = some (.int .i64 ((rd_T37 l0 0).f0)) ∧ w'.cell? ⟨ad140.block, ad140.off + 1, none⟩ = some (.string ((rd_T37 l0 0).f1)) ∧ w'.cell? ⟨ad140.block, ad140.off + 2, none⟩ = some (.string ((rd_T37 l0 0).f2)) ∧ w'.cell? ⟨ad140.block, ad140.off + 3, none⟩ = some (.slice A144_3 ((rd_T37 l0 0).f3).length c144_3) ∧ w'.cell? ⟨ad140.block, ad140.off + 4, none⟩ = some (.int .i64 ((rd_T37 l0 0).f4)) ∧ w'.cell? ⟨ad140.block, ad140.off + 5, none⟩ = some (.int .i64 ((rd_T37 l0 0).f5)) ∧ w'.cell? ⟨ad140.block, ad140.off + 6, none⟩ = some (.int .i64 ((rd_T37 l0 0).f6)) ∧ w'.cell? ⟨ad140.block, ad140.off + 7, none⟩ = some (.slice A144_7 ((rd_T37 l0 0).f7).length c144_7)) ∧ (Kd.V (Kd.int .u8) 5 w' w.heap.size (fun k_ => some k_ ≠ (s_.2 : Value).ownBlock) s_.1 y145) ∧ (Kd.R (Kd.int .u8) 5 w' w.heap.size (fun _ => True) s_.2 y148) ∧ (Below w.heap.size w w')) ?_ ?_
        rotate_left
        ·
         intro hJ5_6
         refine join_ (σ := Value × Value) 5 #[true, true, true, true, true, true, false, true, true, true, true, true, true, true, false, true, true, true, true, false, false, false] (fun s_ => [(22, s_.1), (30, s_.2)]) (fun s_ w' => (w'.cell? ad140 = some (.int .i64 ((rd_T37 l0 0).f0)) ∧ w'.cell? ⟨ad140.block, ad140.off + 1, none⟩ = some (.string ((rd_T37 l0 0).f1)) ∧ w'.cell? ⟨ad140.block, ad140.off + 2, none⟩ = some (.string ((rd_T37 l0 0).f2)) ∧ w'.cell? ⟨ad140.block, ad140.off + 3, none⟩ = some (.slice A144_3 ((rd_T37 l0 0).f3).length c144_3) ∧ w'.cell? ⟨ad140.block, ad140.off + 4, none⟩ = some (.int .i64 ((rd_T37 l0 0).f4)) ∧ w'.cell? ⟨ad140.block, ad140.off + 5, none⟩ = some (.int .i64 ((rd_T37 l0 0).f5)) ∧ w'.cell? ⟨ad140.block, ad140.off + 6, none⟩ = some (.int .i64 ((rd_T37 l0 0).f6)) ∧ w'.cell? ⟨ad140.block, ad140.off + 7, none⟩ = some (.slice A144_7 ((rd_T37 l0 0).f7).length c144_7)) ∧ (Kd.R (Kd.int .u8) 5 w' w.heap.size (fun k_ => some k_ ≠ (s_.2 : Value).ownBlock) (.slice Ao12 y141.length co12) y141) ∧ (Kd.V (Kd.int .u8) 5 w' w.heap.size (fun k_ => some k_ ≠ (.slice Ao12 y141.length co12 : Value).ownBlock ∧ some k_ ≠ (s_.2 : Value).ownBlock) s_.1 y145) ∧ (Kd.R (Kd.int .u8) 5 w' w.heap.size (fun k_ => some k_ ≠ (.slice Ao12 y141.length co12 : Value).ownBlock) s_.2 y151) ∧ (Below w.heap.size w w')) ?_ ?_
         rotate_left
         ·
          intro hJ5_13
          refine join_ (σ := Value × Value) 5 #[true, true, true, true, true, true, false, true, true, true, true, true, true, false, false, true, true, true, true, true, false, false] (fun s_ => [(22, s_.1), (36, s_.2)]) (fun s_ w' => (w'.cell? ad140 = some (.int .i64 ((rd_T37 l0 0).f0)) ∧ w'.cell? ⟨ad140.block, ad140.off + 1, none⟩ = some (.string ((rd_T37 l0 0).f1)) ∧ w'.cell? ⟨ad140.block, ad140.off + 2, none⟩ = some (.string ((rd_T37 l0 0).f2)) ∧ w'.cell? ⟨ad140.block, ad140.off + 3, none⟩ = some (.slice A144_3 ((rd_T37 l0 0).f3).length c144_3) ∧ w'.cell? ⟨ad140.block, ad140.off + 4, none⟩ = some (.int .i64 ((rd_T37 l0 0).f4)) ∧ w'.cell? ⟨ad140.block, ad140.off + 5, none⟩ = some (.int .i64 ((rd_T37 l0 0).f5)) ∧ w'.cell? ⟨ad140.block, ad140.off + 6, none⟩ = some (.int .i64 ((rd_T37 l0 0).f6)) ∧ w'.cell? ⟨ad140.block, ad140.off + 7, none⟩ = some (.slice A144_7 ((rd_T37 l0 0).f7).length c144_7)) ∧ (Kd.R (Kd.int .u8) 5 w' w.heap.size (fun _ => True) (.slice Ao12 y141.length co12) y141) ∧ (Kd.V (Kd.int .u8) 5 w' w.heap.size (fun k_ => some k_ ≠ (.slice Ao12 y141.length co12 : Value).ownBlock) s_.1 y145) ∧ (Kd.V (Kd.int .u8) 5 w' w.heap.size (fun k_ => some k_ ≠ (.slice Ao12 y141.length co12 : Value).ownBlock) s_.2 y157) ∧ (Below w.heap.size w w')) ?_ ?_
          rotate_left
          ·
           intro hJ5_19
           refine join_ (σ := Value × Value) 5 #[true, true, true, true, true, false, false, true, true, true, true, true, true, true, false, true, true, true, true, true, false, false] (fun s_ => [(30, s_.1), (36, s_.2)]) (fun s_ w' => (w'.cell? ad140 = some (.int .i64 ((rd_T37 l0 0).f0)) ∧ w'.cell? ⟨ad140.block, ad140.off + 1, none⟩ = some (.string ((rd_T37 l0 0).f1)) ∧ w'.cell? ⟨ad140.block, ad140.off + 2, none⟩ = some (.string ((rd_T37 l0 0).f2)) ∧ w'.cell? ⟨ad140.block, ad140.off + 3, none⟩ = some (.slice A144_3 ((rd_T37 l0 0).f3).length c144_3) ∧ w'.cell? ⟨ad140.block, ad140.off + 4, none⟩ = some (.int .i64 ((rd_T37 l0 0).f4)) ∧ w'.cell? ⟨ad140.block, ad140.off + 5, none⟩ = some (.int .i64 ((rd_T37 l0 0).f5)) ∧ w'.cell? ⟨ad140.block, ad140.off + 6, none⟩ = some (.int .i64 ((rd_T37 l0 0).f6)) ∧ w'.cell? ⟨ad140.block, ad140.off + 7, none⟩ = some (.slice A144_7 ((rd_T37 l0 0).f7).length c144_7)) ∧ (Kd.R (Kd.int .u8) 5 w' w.heap.size (fun k_ => some k_ ≠ (s_.1 : Value).ownBlock) (.slice Ao12 y141.length co12) y141) ∧ (Kd.R (Kd.int .u8) 5 w' w.heap.size (fun k_ => some k_ ≠ (.slice Ao12 y141.length co12 : Value).ownBlock) s_.1 y151) ∧ (Kd.V (Kd.int .u8) 5 w' w.heap.size (fun k_ => some k_ ≠ (.slice Ao12 y141.length co12 : Value).ownBlock ∧ some k_ ≠ (s_.1 : Value).ownBlock) s_.2 y157) ∧ (Below w.heap.size w w')) ?_ ?_
           rotate_left
           ·
            intro hJ13_19
            refine join_ (σ := Value) 6 #[true, true, true, true, true, true, false, true, true, true, true, true, true, false, false, true, true, true, true, false, false, false] (fun s_ => [(22, s_)]) (fun s_ w' => (w'.cell? ad140 = some (.int .i64 ((rd_T37 l0 0).f0)) ∧ w'.cell? ⟨ad140.block, ad140.off + 1, none⟩ = some (.string ((rd_T37 l0 0).f1)) ∧ w'.cell? ⟨ad140.block, ad140.off + 2, none⟩ = some (.string ((rd_T37 l0 0).f2)) ∧ w'.cell? ⟨ad140.block, ad140.off + 3, none⟩ = some (.slice A144_3 ((rd_T37 l0 0).f3).length c144_3) ∧ w'.cell? ⟨ad140.block, ad140.off + 4, none⟩ = some (.int .i64 ((rd_T37 l0 0).f4)) ∧ w'.cell? ⟨ad140.block, ad140.off + 5, none⟩ = some (.int .i64 ((rd_T37 l0 0).f5)) ∧ w'.cell? ⟨ad140.block, ad140.off + 6, none⟩ = some (.int .i64 ((rd_T37 l0 0).f6)) ∧ w'.cell? ⟨ad140.block, ad140.off + 7, none⟩ = some (.slice A144_7 ((rd_T37 l0 0).f7).length c144_7)) ∧ (Kd.R (Kd.int .u8) 5 w' w.heap.size (fun _ => True) (.slice Ao12 y141.length co12) y141) ∧ (Kd.V (Kd.int .u8) 5 w' w.heap.size (fun k_ => some k_ ≠ (.slice Ao12 y141.length co12 : Value).ownBlock) s_ y145) ∧ (Below w.heap.size w w')) ?_ ?_
            rotate_left
            ·
             intro hJ5
             refine join_ (σ := Value) 6 #[true, true, true, true, true, false, false, true, true, true, true, true, true, true, false, true, true, true, true, false, false, false] (fun s_ => [(30, s_)]) (fun s_ w' => (w'.cell? ad140 = some (.int .i64 ((rd_T37 l0 0).f0)) ∧ w'.cell? ⟨ad140.block, ad140.off + 1, none⟩ = some (.string ((rd_T37 l0 0).f1)) ∧ w'.cell? ⟨ad140.block, ad140.off + 2, none⟩ = some (.string ((rd_T37 l0 0).f2)) ∧ w'.cell? ⟨ad140.block, ad140.off + 3, none⟩ = some (.slice A144_3 ((rd_T37 l0 0).f3).length c144_3) ∧ w'.cell? ⟨ad140.block, ad140.off + 4, none⟩ = some (.int .i64 ((rd_T37 l0 0).f4)) ∧ w'.cell? ⟨ad140.block, ad140.off + 5, none⟩ = some (.int .i64 ((rd_T37 l0 0).f5)) ∧ w'.cell? ⟨ad140.block, ad140.off + 6, none⟩ = some (.int .i64 ((rd_T37 l0 0).f6)) ∧ w'.cell? ⟨ad140.block, ad140.off + 7, none⟩ = some (.slice A144_7 ((rd_T37 l0 0).f7).length c144_7)) ∧ (Kd.R (Kd.int .u8) 5 w' w.heap.size (fun k_ => some k_ ≠ (s_ : Value).ownBlock) (.slice Ao12 y141.length co12) y141) ∧ (Kd.R (Kd.int .u8) 5 w' w.heap.size (fun k_ => some k_ ≠ (.slice Ao12 y141.length co12 : Value).ownBlock) s_ y151) ∧ (Below w.heap.size w w')) ?_ ?_
             rotate_left
             ·
              intro hJ13
              refine join_ (σ := Value) 6 #[true, true, true, true, true, false, false, true, true, true, true, true, true, false, false, true, true, true, true, true, false, false] (fun s_ => [(36, s_)]) (fun s_ w' => (w'.cell? ad140 = some (.int .i64 ((rd_T37 l0 0).f0)) ∧ w'.cell? ⟨ad140.block, ad140.off + 1, none⟩ = some (.string ((rd_T37 l0 0).f1)) ∧ w'.cell? ⟨ad140.block, ad140.off + 2, none⟩ = some (.string ((rd_T37 l0 0).f2)) ∧ w'.cell? ⟨ad140.block, ad140.off + 3, none⟩ = some (.slice A144_3 ((rd_T37 l0 0).f3).length c144_3) ∧ w'.cell? ⟨ad140.block, ad140.off + 4, none⟩ = some (.int .i64 ((rd_T37 l0 0).f4)) ∧ w'.cell? ⟨ad140.block, ad140.off + 5, none⟩ = some (.int .i64 ((rd_T37 l0 0).f5)) ∧ w'.cell? ⟨ad140.block, ad140.off + 6, none⟩ = some (.int .i64 ((rd_T37 l0 0).f6)) ∧ w'.cell? ⟨ad140.block, ad140.off + 7, none⟩ = some (.slice A144_7 ((rd_T37 l0 0).f7).length c144_7)) ∧ (Kd.R (Kd.int .u8) 5 w' w.heap.size (fun _ => True) (.slice Ao12 y141.length co12) y141) ∧ (Kd.V (Kd.int .u8) 5 w' w.heap.size (fun k_ => some k_ ≠ (.slice Ao12 y141.length co12 : Value).ownBlock) s_ y157) ∧ (Below w.heap.size w w')) ?_ ?_
              rotate_left
              ·
               intro hJ19
               refine three_ (i := 5) (j := 13) (k := 19) (Ni := some 22) (Nj := some 30) (Nk := some 36) #[true, true, true, true, true, true, false, true, true, true, true, true, true, false, false, true, true, true, true, false, false, false] #[true, true, true, true, true, false, false, true, true, true, true, true, true, true, false, true, true, true, true, false, false, false] #[true, true, true, true, true, false, false, true, true, true, true, true, true, false, false, true, true, true, true, true, false, false] rfl rfl rfl rfl rfl rfl (three_of HT_.out (by kernel_rfl)) (by decide) (by decide) (by decide) (fun K hK => ?_) (fun K hK => ?_) (fun K hK => ?_)
               ·
                skip
                refine Kd.V_conv_step _ 5 (by rfl) (N' := 22) rfl 9 24 _ rfl Try.underlying9 Try.underlying24 Try.underlying5 ((rd_T37 l0 0).f1) rfl (by have := LMc3.out; omega) (Below.refl _ _) (Nat.le_refl _) ?_
                intro v146 w14 ho15 hb hg_ hnew_
                clear hg_ hnew_
                (first | rw [← Ny145.out] at ho15 | (simp only [Int.reduceToNat] at ho15; rw [← Ny145.out] at ho15))
                have n0_ := Aside0.mk (Kd.R_below (R_up HO143.out) hb)
                have n1_ := Aside0.mk (Kd.V_lower (Kd.V_mono (ok' := fun k_ => some k_ ≠ (.slice Ao12 y141.length co12 : Value).ownBlock) ho15 (fun k_ hk_ => (Kd.fresh' (Kd.R_lt (R_up HO143.out)) k_ hk_))) (below_size (HB_up HB.out)))
                have n2_ := Aside0.mk (below_step (HB_up HB.out) hb)
                clear HO143
                clear HB
                have HO143 := n0_
                have HO147 := n1_
                have HB := n2_
                clear n0_ n1_ n2_
                clear hb ho15
                refine hK.out _ _ ⟨(ck_ HB.out hw144_0), (ck_ HB.out hw144_1), (ck_ HB.out hw144_2), (ck_ HB.out hw144_3), (ck_ HB.out hw144_4), (ck_ HB.out hw144_5), (ck_ HB.out hw144_6), (ck_ HB.out hw144_7)⟩ (fun hHeld => ?_)
                clear hK K
                refine norm_ (a' := ?_) ?_ ?_
                rotate_left
                · show Act.put _ (some 22) _ = _
                  simp only [Act.put, List.setIfInBounds_toArray, List.set_cons_zero, List.set_cons_succ, i64_w, i32_w]
                  rfl
                exact norm_ (by first | (simp only [putAll, Act.put, List.setIfInBounds_toArray, List.set_cons_zero, List.set_cons_succ]; done) | (simp only [putAll, Act.put, List.setIfInBounds_toArray, List.set_cons_zero, List.set_cons_succ]; rfl)) (hJ5 (v146) _ ⟨hHeld, (R_up HO143.out), (V_up HO147.out), (HB_up HB.out)⟩)
               ·
                skip
                refine Kd.R_lit_step (Kd.int .u8) _ 5 ?hg (N := 30) ?hd (xs := ([((((rd_T37 l0 0).f2).size : Int)) % 256] : List Int)) (inner := [.int .u8 (((((rd_T37 l0 0).f2).size : Int)) % 256)]) (ok := fun _ => True) (okp := fun _ => True) ?hr ?hp (fun _ hk => hk) trivial (Below.refl _ _) (Nat.le_refl _) (by simp) ?_; (case hd => rfl); (case hg => rfl); (case hr => first | (go_simp; done) | (go_simp; rfl)); (case hp => exact (Reps.one (show Kd.M (Kd.int .u8) _ _ _ (((((rd_T37 l0 0).f2).size : Int)) % 256) [.int .u8 (((((rd_T37 l0 0).f2).size : Int)) % 256)] from rfl) (Reps.none _ _)))
                intro v152 w14 ho15 hb hg_ hnew_
                clear hg_ hnew_
                (first | rw [← Ny151.out] at ho15 | (simp only [Int.reduceToNat] at ho15; rw [← Ny151.out] at ho15))
                have n0_ := Aside0.mk (Kd.R_elder' (R_up HO143.out) (Kd.R_base ho15) hb)
                have n1_ := Aside0.mk (Kd.R_lower (Kd.R_new' ho15 (Kd.R_lt (R_up HO143.out))) (below_size (HB_up HB.out)))
                have n2_ := Aside0.mk (below_step (HB_up HB.out) hb)
                clear HO143
                clear HB
                have HO143 := n0_
                have HO153 := n1_
                have HB := n2_
                clear n0_ n1_ n2_
                clear hb ho15
                refine hK.out _ _ ⟨(ck_ HB.out hw144_0), (ck_ HB.out hw144_1), (ck_ HB.out hw144_2), (ck_ HB.out hw144_3), (ck_ HB.out hw144_4), (ck_ HB.out hw144_5), (ck_ HB.out hw144_6), (ck_ HB.out hw144_7)⟩ (fun hHeld => ?_)
                clear hK K
                refine norm_ (a' := ?_) ?_ ?_
                rotate_left
                · show Act.put _ (some 30) _ = _
                  simp only [Act.put, List.setIfInBounds_toArray, List.set_cons_zero, List.set_cons_succ, i64_w, i32_w]
                  rfl
                exact norm_ (by first | (simp only [putAll, Act.put, List.setIfInBounds_toArray, List.set_cons_zero, List.set_cons_succ]; done) | (simp only [putAll, Act.put, List.setIfInBounds_toArray, List.set_cons_zero, List.set_cons_succ]; rfl)) (hJ13 (v152) _ ⟨hHeld, (by (with_reducible repeat (first | apply Kd.R_alloc | apply Kd.R_drewN | apply Kd.R_drew)); exact Kd.R_mono HO143.out (fun _ hk => hk.2)), (by (with_reducible repeat (first | apply Kd.R_alloc | apply Kd.R_drewN | apply Kd.R_drew)); exact Kd.R_mono HO153.out (fun _ hk => hk.2)), (HB_up HB.out)⟩)
               ·
                skip
                refine Kd.V_conv_step _ 5 (by rfl) (N' := 36) rfl 9 24 _ rfl Try.underlying9 Try.underlying24 Try.underlying5 ((rd_T37 l0 0).f2) rfl (by have := LMc6.out; omega) (Below.refl _ _) (Nat.le_refl _) ?_
                intro v158 w14 ho15 hb hg_ hnew_
                clear hg_ hnew_
                (first | rw [← Ny157.out] at ho15 | (simp only [Int.reduceToNat] at ho15; rw [← Ny157.out] at ho15))
                have n0_ := Aside0.mk (Kd.R_below (R_up HO143.out) hb)
                have n1_ := Aside0.mk (Kd.V_lower (Kd.V_mono (ok' := fun k_ => some k_ ≠ (.slice Ao12 y141.length co12 : Value).ownBlock) ho15 (fun k_ hk_ => (Kd.fresh' (Kd.R_lt (R_up HO143.out)) k_ hk_))) (below_size (HB_up HB.out)))
                have n2_ := Aside0.mk (below_step (HB_up HB.out) hb)
                clear HO143
                clear HB
                have HO143 := n0_
                have HO159 := n1_
                have HB := n2_
                clear n0_ n1_ n2_
                clear hb ho15
                refine hK.out _ _ ⟨(ck_ HB.out hw144_0), (ck_ HB.out hw144_1), (ck_ HB.out hw144_2), (ck_ HB.out hw144_3), (ck_ HB.out hw144_4), (ck_ HB.out hw144_5), (ck_ HB.out hw144_6), (ck_ HB.out hw144_7)⟩ (fun hHeld => ?_)
                clear hK K
                refine norm_ (a' := ?_) ?_ ?_
                rotate_left
                · show Act.put _ (some 36) _ = _
                  simp only [Act.put, List.setIfInBounds_toArray, List.set_cons_zero, List.set_cons_succ, i64_w, i32_w]
                  rfl
                exact norm_ (by first | (simp only [putAll, Act.put, List.setIfInBounds_toArray, List.set_cons_zero, List.set_cons_succ]; done) | (simp only [putAll, Act.put, List.setIfInBounds_toArray, List.set_cons_zero, List.set_cons_succ]; rfl)) (hJ19 (v158) _ ⟨hHeld, (R_up HO143.out), (V_up HO159.out), (HB_up HB.out)⟩)
              ·
               skip
               rintro v158 w16 ⟨hS_, h0_, h1_, h2_⟩
               have n0_ : Aside0 (Kd.R (Kd.int .u8) 5 w16 w.heap.size (fun _ => True) (.slice Ao12 y141.length co12) y141) := ⟨h0_⟩
               have n1_ : Aside0 (Kd.V (Kd.int .u8) 5 w16 w.heap.size (fun k_ => some k_ ≠ (.slice Ao12 y141.length co12 : Value).ownBlock) v158 y157) := ⟨h1_⟩
               have n2_ : Aside0 (Below w.heap.size w w16) := ⟨h2_⟩
               clear HO143
               clear HB
               clear h0_ h1_ h2_
               have HO143 := n0_
               have HO159 := n1_
               have HB := n2_
               clear n0_ n1_ n2_
               have hHeld : w16.cell? ad140 = some (.int .i64 ((rd_T37 l0 0).f0)) ∧ w16.cell? ⟨ad140.block, ad140.off + 1, none⟩ = some (.string ((rd_T37 l0 0).f1)) ∧ w16.cell? ⟨ad140.block, ad140.off + 2, none⟩ = some (.string ((rd_T37 l0 0).f2)) ∧ w16.cell? ⟨ad140.block, ad140.off + 3, none⟩ = some (.slice A144_3 ((rd_T37 l0 0).f3).length c144_3) ∧ w16.cell? ⟨ad140.block, ad140.off + 4, none⟩ = some (.int .i64 ((rd_T37 l0 0).f4)) ∧ w16.cell? ⟨ad140.block, ad140.off + 5, none⟩ = some (.int .i64 ((rd_T37 l0 0).f5)) ∧ w16.cell? ⟨ad140.block, ad140.off + 6, none⟩ = some (.int .i64 ((rd_T37 l0 0).f6)) ∧ w16.cell? ⟨ad140.block, ad140.off + 7, none⟩ = some (.slice A144_7 ((rd_T37 l0 0).f7).length c144_7) := hS_
               refine norm_ (a' := ?_) ?_ ?_
               rotate_left
               · simp only [putAll, Act.put, List.setIfInBounds_toArray, List.set_cons_zero, List.set_cons_succ]
                 rfl
               refine two_ (i := 5) (j := 13) (Ni := some 22) (Nj := some 30) #[true, true, true, true, true, true, false, true, true, true, true, true, true, false, false, true, true, true, true, true, false, false] #[true, true, true, true, true, false, false, true, true, true, true, true, true, true, false, true, true, true, true, true, false, false] rfl rfl rfl rfl (two_of HT_.out (by kernel_rfl)) (by decide) (by decide) (fun K hK => ?_) (fun K hK => ?_)
               ·
                skip
                refine Kd.V_conv_step _ 5 (by rfl) (N' := 22) rfl 9 24 _ rfl Try.underlying9 Try.underlying24 Try.underlying5 ((rd_T37 l0 0).f1) rfl (by have := LMc3.out; omega) (Below.refl _ _) (Nat.le_refl _) ?_
                intro v146 w17 ho18 hb hg_ hnew_
                clear hg_ hnew_
                (first | rw [← Ny145.out] at ho18 | (simp only [Int.reduceToNat] at ho18; rw [← Ny145.out] at ho18))
                have n0_ := Aside0.mk (Kd.R_below (R_up HO143.out) hb)
                have n1_ := Aside0.mk (Kd.V_below (V_up HO159.out) hb)
                have n2_ := Aside0.mk (Kd.V_lower (Kd.V_mono (ok' := fun k_ => some k_ ≠ (.slice Ao12 y141.length co12 : Value).ownBlock) ho18 (fun k_ hk_ => (Kd.fresh' (Kd.R_lt (R_up HO143.out)) k_ hk_))) (below_size (HB_up HB.out)))
                have n3_ := Aside0.mk (below_step (HB_up HB.out) hb)
                clear HO143
                clear HO159
                clear HB
                have HO143 := n0_
                have HO159 := n1_
                have HO147 := n2_
                have HB := n3_
                clear n0_ n1_ n2_ n3_
                clear hb ho18
                refine hK.out _ _ ⟨(ck_ HB.out hw144_0), (ck_ HB.out hw144_1), (ck_ HB.out hw144_2), (ck_ HB.out hw144_3), (ck_ HB.out hw144_4), (ck_ HB.out hw144_5), (ck_ HB.out hw144_6), (ck_ HB.out hw144_7)⟩ (fun hHeld => ?_)
                clear hK K
                refine norm_ (a' := ?_) ?_ ?_
                rotate_left
                · show Act.put _ (some 22) _ = _
                  simp only [Act.put, List.setIfInBounds_toArray, List.set_cons_zero, List.set_cons_succ, i64_w, i32_w]
                  rfl
                exact norm_ (by first | (simp only [putAll, Act.put, List.setIfInBounds_toArray, List.set_cons_zero, List.set_cons_succ]; done) | (simp only [putAll, Act.put, List.setIfInBounds_toArray, List.set_cons_zero, List.set_cons_succ]; rfl)) (hJ5_19 (v146, v158) _ ⟨hHeld, (R_up HO143.out), (V_up HO147.out), (V_up HO159.out), (HB_up HB.out)⟩)
               ·
                skip
                refine Kd.R_lit_step (Kd.int .u8) _ 5 ?hg (N := 30) ?hd (xs := ([((((rd_T37 l0 0).f2).size : Int)) % 256] : List Int)) (inner := [.int .u8 (((((rd_T37 l0 0).f2).size : Int)) % 256)]) (ok := fun _ => True) (okp := fun _ => True) ?hr ?hp (fun _ hk => hk) trivial (Below.refl _ _) (Nat.le_refl _) (by simp) ?_; (case hd => rfl); (case hg => rfl); (case hr => first | (go_simp; done) | (go_simp; rfl)); (case hp => exact (Reps.one (show Kd.M (Kd.int .u8) _ _ _ (((((rd_T37 l0 0).f2).size : Int)) % 256) [.int .u8 (((((rd_T37 l0 0).f2).size : Int)) % 256)] from rfl) (Reps.none _ _)))
                intro v152 w17 ho18 hb hg_ hnew_
                clear hg_ hnew_
                (first | rw [← Ny151.out] at ho18 | (simp only [Int.reduceToNat] at ho18; rw [← Ny151.out] at ho18))
                have n0_ := Aside0.mk (Kd.R_elder' (R_up HO143.out) (Kd.R_base ho18) hb)
                have n1_ := Aside0.mk (Kd.V_elder' (V_up HO159.out) (Kd.R_base ho18) hb)
                have n2_ := Aside0.mk (Kd.R_lower (Kd.R_new' ho18 (Kd.R_lt (R_up HO143.out))) (below_size (HB_up HB.out)))
                have n3_ := Aside0.mk (below_step (HB_up HB.out) hb)
                clear HO143
                clear HO159
                clear HB
                have HO143 := n0_
                have HO159 := n1_
                have HO153 := n2_
                have HB := n3_
                clear n0_ n1_ n2_ n3_
                clear hb ho18
                refine hK.out _ _ ⟨(ck_ HB.out hw144_0), (ck_ HB.out hw144_1), (ck_ HB.out hw144_2), (ck_ HB.out hw144_3), (ck_ HB.out hw144_4), (ck_ HB.out hw144_5), (ck_ HB.out hw144_6), (ck_ HB.out hw144_7)⟩ (fun hHeld => ?_)
                clear hK K
                refine norm_ (a' := ?_) ?_ ?_
                rotate_left
                · show Act.put _ (some 30) _ = _
                  simp only [Act.put, List.setIfInBounds_toArray, List.set_cons_zero, List.set_cons_succ, i64_w, i32_w]
                  rfl
                exact norm_ (by first | (simp only [putAll, Act.put, List.setIfInBounds_toArray, List.set_cons_zero, List.set_cons_succ]; done) | (simp only [putAll, Act.put, List.setIfInBounds_toArray, List.set_cons_zero, List.set_cons_succ]; rfl)) (hJ13_19 (v152, v158) _ ⟨hHeld, (by (with_reducible repeat (first | apply Kd.R_alloc | apply Kd.R_drewN | apply Kd.R_drew)); exact Kd.R_mono HO143.out (fun _ hk => hk.2)), (by (with_reducible repeat (first | apply Kd.R_alloc | apply Kd.R_drewN | apply Kd.R_drew)); exact Kd.R_mono HO153.out (fun _ hk => hk.2)), (V_up HO159.out), (HB_up HB.out)⟩)
             ·
              skip
              rintro v152 w16 ⟨hS_, h0_, h1_, h2_⟩
              have n0_ : Aside0 (Kd.R (Kd.int .u8) 5 w16 w.heap.size (fun k_ => some k_ ≠ (v152 : Value).ownBlock) (.slice Ao12 y141.length co12) y141) := ⟨h0_⟩
              have n1_ : Aside0 (Kd.R (Kd.int .u8) 5 w16 w.heap.size (fun k_ => some k_ ≠ (.slice Ao12 y141.length co12 : Value).ownBlock) v152 y151) := ⟨h1_⟩
              have n2_ : Aside0 (Below w.heap.size w w16) := ⟨h2_⟩
              clear HO143
              clear HB
              clear h0_ h1_ h2_
              have HO143 := n0_
              have HO153 := n1_
              have HB := n2_
              clear n0_ n1_ n2_
              have hHeld : w16.cell? ad140 = some (.int .i64 ((rd_T37 l0 0).f0)) ∧ w16.cell? ⟨ad140.block, ad140.off + 1, none⟩ = some (.string ((rd_T37 l0 0).f1)) ∧ w16.cell? ⟨ad140.block, ad140.off + 2, none⟩ = some (.string ((rd_T37 l0 0).f2)) ∧ w16.cell? ⟨ad140.block, ad140.off + 3, none⟩ = some (.slice A144_3 ((rd_T37 l0 0).f3).length c144_3) ∧ w16.cell? ⟨ad140.block, ad140.off + 4, none⟩ = some (.int .i64 ((rd_T37 l0 0).f4)) ∧ w16.cell? ⟨ad140.block, ad140.off + 5, none⟩ = some (.int .i64 ((rd_T37 l0 0).f5)) ∧ w16.cell? ⟨ad140.block, ad140.off + 6, none⟩ = some (.int .i64 ((rd_T37 l0 0).f6)) ∧ w16.cell? ⟨ad140.block, ad140.off + 7, none⟩ = some (.slice A144_7 ((rd_T37 l0 0).f7).length c144_7) := hS_
              refine norm_ (a' := ?_) ?_ ?_
              rotate_left
              · simp only [putAll, Act.put, List.setIfInBounds_toArray, List.set_cons_zero, List.set_cons_succ]
                rfl
              refine two_ (i := 5) (j := 19) (Ni := some 22) (Nj := some 36) #[true, true, true, true, true, true, false, true, true, true, true, true, true, true, false, true, true, true, true, false, false, false] #[true, true, true, true, true, false, false, true, true, true, true, true, true, true, false, true, true, true, true, true, false, false] rfl rfl rfl rfl (two_of HT_.out (by kernel_rfl)) (by decide) (by decide) (fun K hK => ?_) (fun K hK => ?_)
              ·
               skip
               refine Kd.V_conv_step _ 5 (by rfl) (N' := 22) rfl 9 24 _ rfl Try.underlying9 Try.underlying24 Try.underlying5 ((rd_T37 l0 0).f1) rfl (by have := LMc3.out; omega) (Below.refl _ _) (Nat.le_refl _) ?_
               intro v146 w17 ho18 hb hg_ hnew_
               clear hg_ hnew_
               (first | rw [← Ny145.out] at ho18 | (simp only [Int.reduceToNat] at ho18; rw [← Ny145.out] at ho18))
               have n0_ := Aside0.mk (Kd.R_below (R_up HO143.out) hb)
               have n1_ := Aside0.mk (Kd.R_below (R_up HO153.out) hb)
               have n2_ := Aside0.mk (Kd.V_lower (Kd.V_mono (ok' := fun k_ => some k_ ≠ (.slice Ao12 y141.length co12 : Value).ownBlock ∧ some k_ ≠ (v152 : Value).ownBlock) ho18 (fun k_ hk_ => ⟨(Kd.fresh' (Kd.R_lt (R_up HO143.out)) k_ hk_), (Kd.fresh' (Kd.R_lt (R_up HO153.out)) k_ hk_)⟩)) (below_size (HB_up HB.out)))
               have n3_ := Aside0.mk (below_step (HB_up HB.out) hb)
               clear HO143
               clear HO153
               clear HB
               have HO143 := n0_
               have HO153 := n1_
               have HO147 := n2_
               have HB := n3_
               clear n0_ n1_ n2_ n3_
               clear hb ho18
               refine hK.out _ _ ⟨(ck_ HB.out hw144_0), (ck_ HB.out hw144_1), (ck_ HB.out hw144_2), (ck_ HB.out hw144_3), (ck_ HB.out hw144_4), (ck_ HB.out hw144_5), (ck_ HB.out hw144_6), (ck_ HB.out hw144_7)⟩ (fun hHeld => ?_)
               clear hK K
               refine norm_ (a' := ?_) ?_ ?_
               rotate_left
               · show Act.put _ (some 22) _ = _
                 simp only [Act.put, List.setIfInBounds_toArray, List.set_cons_zero, List.set_cons_succ, i64_w, i32_w]
                 rfl
               exact norm_ (by first | (simp only [putAll, Act.put, List.setIfInBounds_toArray, List.set_cons_zero, List.set_cons_succ]; done) | (simp only [putAll, Act.put, List.setIfInBounds_toArray, List.set_cons_zero, List.set_cons_succ]; rfl)) (hJ5_13 (v146, v152) _ ⟨hHeld, (R_up HO143.out), (V_up HO147.out), (R_up HO153.out), (HB_up HB.out)⟩)
              ·
               skip
               refine Kd.V_conv_step _ 5 (by rfl) (N' := 36) rfl 9 24 _ rfl Try.underlying9 Try.underlying24 Try.underlying5 ((rd_T37 l0 0).f2) rfl (by have := LMc6.out; omega) (Below.refl _ _) (Nat.le_refl _) ?_
               intro v158 w17 ho18 hb hg_ hnew_
               clear hg_ hnew_
               (first | rw [← Ny157.out] at ho18 | (simp only [Int.reduceToNat] at ho18; rw [← Ny157.out] at ho18))
               have n0_ := Aside0.mk (Kd.R_below (R_up HO143.out) hb)
               have n1_ := Aside0.mk (Kd.R_below (R_up HO153.out) hb)
               have n2_ := Aside0.mk (Kd.V_lower (Kd.V_mono (ok' := fun k_ => some k_ ≠ (.slice Ao12 y141.length co12 : Value).ownBlock ∧ some k_ ≠ (v152 : Value).ownBlock) ho18 (fun k_ hk_ => ⟨(Kd.fresh' (Kd.R_lt (R_up HO143.out)) k_ hk_), (Kd.fresh' (Kd.R_lt (R_up HO153.out)) k_ hk_)⟩)) (below_size (HB_up HB.out)))
               have n3_ := Aside0.mk (below_step (HB_up HB.out) hb)
               clear HO143
               clear HO153
               clear HB
               have HO143 := n0_
               have HO153 := n1_
               have HO159 := n2_
               have HB := n3_
               clear n0_ n1_ n2_ n3_
               clear hb ho18
               refine hK.out _ _ ⟨(ck_ HB.out hw144_0), (ck_ HB.out hw144_1), (ck_ HB.out hw144_2), (ck_ HB.out hw144_3), (ck_ HB.out hw144_4), (ck_ HB.out hw144_5), (ck_ HB.out hw144_6), (ck_ HB.out hw144_7)⟩ (fun hHeld => ?_)
               clear hK K
               refine norm_ (a' := ?_) ?_ ?_
               rotate_left
               · show Act.put _ (some 36) _ = _
                 simp only [Act.put, List.setIfInBounds_toArray, List.set_cons_zero, List.set_cons_succ, i64_w, i32_w]
                 rfl
               exact norm_ (by first | (simp only [putAll, Act.put, List.setIfInBounds_toArray, List.set_cons_zero, List.set_cons_succ]; done) | (simp only [putAll, Act.put, List.setIfInBounds_toArray, List.set_cons_zero, List.set_cons_succ]; rfl)) (hJ13_19 (v152, v158) _ ⟨hHeld, (R_up HO143.out), (R_up HO153.out), (V_up HO159.out), (HB_up HB.out)⟩)
            ·
             skip
             rintro v146 w16 ⟨hS_, h0_, h1_, h2_⟩
             have n0_ : Aside0 (Kd.R (Kd.int .u8) 5 w16 w.heap.size (fun _ => True) (.slice Ao12 y141.length co12) y141) := ⟨h0_⟩
             have n1_ : Aside0 (Kd.V (Kd.int .u8) 5 w16 w.heap.size (fun k_ => some k_ ≠ (.slice Ao12 y141.length co12 : Value).ownBlock) v146 y145) := ⟨h1_⟩
             have n2_ : Aside0 (Below w.heap.size w w16) := ⟨h2_⟩
             clear HO143
             clear HB
             clear h0_ h1_ h2_
             have HO143 := n0_
             have HO147 := n1_
             have HB := n2_
             clear n0_ n1_ n2_
             have hHeld : w16.cell? ad140 = some (.int .i64 ((rd_T37 l0 0).f0)) ∧ w16.cell? ⟨ad140.block, ad140.off + 1, none⟩ = some (.string ((rd_T37 l0 0).f1)) ∧ w16.cell? ⟨ad140.block, ad140.off + 2, none⟩ = some (.string ((rd_T37 l0 0).f2)) ∧ w16.cell? ⟨ad140.block, ad140.off + 3, none⟩ = some (.slice A144_3 ((rd_T37 l0 0).f3).length c144_3) ∧ w16.cell? ⟨ad140.block, ad140.off + 4, none⟩ = some (.int .i64 ((rd_T37 l0 0).f4)) ∧ w16.cell? ⟨ad140.block, ad140.off + 5, none⟩ = some (.int .i64 ((rd_T37 l0 0).f5)) ∧ w16.cell? ⟨ad140.block, ad140.off + 6, none⟩ = some (.int .i64 ((rd_T37 l0 0).f6)) ∧ w16.cell? ⟨ad140.block, ad140.off + 7, none⟩ = some (.slice A144_7 ((rd_T37 l0 0).f7).length c144_7) := hS_
             refine norm_ (a' := ?_) ?_ ?_
             rotate_left
             · simp only [putAll, Act.put, List.setIfInBounds_toArray, List.set_cons_zero, List.set_cons_succ]
               rfl
             refine three_ (i := 6) (j := 13) (k := 19) (Ni := some 23) (Nj := some 30) (Nk := some 36) #[true, true, true, true, true, true, true, true, true, true, true, true, true, false, false, true, true, true, true, false, false, false] #[true, true, true, true, true, true, false, true, true, true, true, true, true, true, false, true, true, true, true, false, false, false] #[true, true, true, true, true, true, false, true, true, true, true, true, true, false, false, true, true, true, true, true, false, false] rfl rfl rfl rfl rfl rfl (three_of HT_.out (by kernel_rfl)) (by decide) (by decide) (by decide) (fun K hK => ?_) (fun K hK => ?_) (fun K hK => ?_)
             ·
              skip
              obtain ⟨Ao18, co18, eo18⟩ := Kd.V_slice HO147.out
              (first | subst eo18 | (injection eo18 with f1_ f2_ f3_; have f4_ := f1_.symm; have f5_ := f3_.symm; clear f1_ f2_ f3_; subst f4_; subst f5_))
              refine Kd.R_append_rows_step (Kd.int .u8) (w0 := w) w.heap.size (by rfl) (.tmp 17) (.tmp 22) 24 5 (.int .u8 0) 1 rfl Try.underlying24 info5 rfl (by decide) (by omega) (.slice Ao12 y141.length co12) y141 y145 _ _ _ (fun _ => True) (fun _ => False) rfl rfl ?aO ?aR (fun _ _ h => h) (fun _ h => h.elim) ?aF ?aB ?aS ?aL ?_
              (case aR => exact C_up (Kd.V_reads' HO147.out).2.2)
              (case aB => exact (HB_up HB.out))
              (case aF => exact (fun _ _ => trivial))
              (case aO => exact (R_up HO143.out))
              (case aS => exact (below_size (HB_up HB.out)))
              (case aL => have := LMc4.out; omega)
              intro v149 w17 ho hb hg hat
              rw [← Ny148.out] at ho
              have n0_ := Aside0.mk (Kd.V_afterv (ok := (fun _ => True)) (by (with_reducible repeat (first | apply Kd.V_alloc | apply Kd.V_drewN | apply Kd.V_drew)); exact Kd.V_mono HO147.out (fun _ hk => ⟨trivial, hk⟩)) hg hat)
              have n1_ := Aside0.mk (hb)
              have n2_ := Aside0.mk (ho)
              clear HO147
              clear HB
              clear HO143
              have HO147 := n0_
              have HB := n1_
              have HO150 := n2_
              clear n0_ n1_ n2_
              clear ho hb hg hat
              refine hK.out _ _ ⟨(ck_ HB.out hw144_0), (ck_ HB.out hw144_1), (ck_ HB.out hw144_2), (ck_ HB.out hw144_3), (ck_ HB.out hw144_4), (ck_ HB.out hw144_5), (ck_ HB.out hw144_6), (ck_ HB.out hw144_7)⟩ (fun hHeld => ?_)
              clear hK K
              refine norm_ (a' := ?_) ?_ ?_
              rotate_left
              · show Act.put _ (some 23) _ = _
                simp only [Act.put, List.setIfInBounds_toArray, List.set_cons_zero, List.set_cons_succ, i64_w, i32_w]
                rfl
              exact norm_ (by first | (simp only [putAll, Act.put, List.setIfInBounds_toArray, List.set_cons_zero, List.set_cons_succ]; done) | (simp only [putAll, Act.put, List.setIfInBounds_toArray, List.set_cons_zero, List.set_cons_succ]; rfl)) (hJ5_6 (.slice Ao18 y145.length co18, v149) _ ⟨hHeld, (by (with_reducible repeat (first | apply Kd.V_alloc | apply Kd.V_drewN | apply Kd.V_drew)); exact Kd.V_mono HO147.out (fun _ hk => hk.2)), (R_up HO150.out), (HB_up HB.out)⟩)
             ·
              skip
              refine Kd.R_lit_step (Kd.int .u8) _ 5 ?hg (N := 30) ?hd (xs := ([((((rd_T37 l0 0).f2).size : Int)) % 256] : List Int)) (inner := [.int .u8 (((((rd_T37 l0 0).f2).size : Int)) % 256)]) (ok := fun _ => True) (okp := fun _ => True) ?hr ?hp (fun _ hk => hk) trivial (Below.refl _ _) (Nat.le_refl _) (by simp) ?_; (case hd => rfl); (case hg => rfl); (case hr => first | (go_simp; done) | (go_simp; rfl)); (case hp => exact (Reps.one (show Kd.M (Kd.int .u8) _ _ _ (((((rd_T37 l0 0).f2).size : Int)) % 256) [.int .u8 (((((rd_T37 l0 0).f2).size : Int)) % 256)] from rfl) (Reps.none _ _)))
              intro v152 w17 ho18 hb hg_ hnew_
              clear hg_ hnew_
              (first | rw [← Ny151.out] at ho18 | (simp only [Int.reduceToNat] at ho18; rw [← Ny151.out] at ho18))
              have n0_ := Aside0.mk (Kd.R_elder' (R_up HO143.out) (Kd.R_base ho18) hb)
              have n1_ := Aside0.mk (Kd.V_elder' (V_up HO147.out) (Kd.R_base ho18) hb)
              have n2_ := Aside0.mk (Kd.R_lower (Kd.R_new' ho18 (Kd.R_lt (R_up HO143.out))) (below_size (HB_up HB.out)))
              have n3_ := Aside0.mk (below_step (HB_up HB.out) hb)
              clear HO143
              clear HO147
              clear HB
              have HO143 := n0_
              have HO147 := n1_
              have HO153 := n2_
              have HB := n3_
              clear n0_ n1_ n2_ n3_
              clear hb ho18
              refine hK.out _ _ ⟨(ck_ HB.out hw144_0), (ck_ HB.out hw144_1), (ck_ HB.out hw144_2), (ck_ HB.out hw144_3), (ck_ HB.out hw144_4), (ck_ HB.out hw144_5), (ck_ HB.out hw144_6), (ck_ HB.out hw144_7)⟩ (fun hHeld => ?_)
              clear hK K
              refine norm_ (a' := ?_) ?_ ?_
              rotate_left
              · show Act.put _ (some 30) _ = _
                simp only [Act.put, List.setIfInBounds_toArray, List.set_cons_zero, List.set_cons_succ, i64_w, i32_w]
                rfl
              exact norm_ (by first | (simp only [putAll, Act.put, List.setIfInBounds_toArray, List.set_cons_zero, List.set_cons_succ]; done) | (simp only [putAll, Act.put, List.setIfInBounds_toArray, List.set_cons_zero, List.set_cons_succ]; rfl)) (hJ5_13 (v146, v152) _ ⟨hHeld, (by (with_reducible repeat (first | apply Kd.R_alloc | apply Kd.R_drewN | apply Kd.R_drew)); exact Kd.R_mono HO143.out (fun _ hk => hk.2)), (V_up HO147.out), (by (with_reducible repeat (first | apply Kd.R_alloc | apply Kd.R_drewN | apply Kd.R_drew)); exact Kd.R_mono HO153.out (fun _ hk => hk.2)), (HB_up HB.out)⟩)
             ·
              skip
              refine Kd.V_conv_step _ 5 (by rfl) (N' := 36) rfl 9 24 _ rfl Try.underlying9 Try.underlying24 Try.underlying5 ((rd_T37 l0 0).f2) rfl (by have := LMc6.out; omega) (Below.refl _ _) (Nat.le_refl _) ?_
              intro v158 w17 ho18 hb hg_ hnew_
              clear hg_ hnew_
              (first | rw [← Ny157.out] at ho18 | (simp only [Int.reduceToNat] at ho18; rw [← Ny157.out] at ho18))
              have n0_ := Aside0.mk (Kd.R_below (R_up HO143.out) hb)
              have n1_ := Aside0.mk (Kd.V_below (V_up HO147.out) hb)
              have n2_ := Aside0.mk (Kd.V_lower (Kd.V_mono (ok' := fun k_ => some k_ ≠ (.slice Ao12 y141.length co12 : Value).ownBlock) ho18 (fun k_ hk_ => (Kd.fresh' (Kd.R_lt (R_up HO143.out)) k_ hk_))) (below_size (HB_up HB.out)))
              have n3_ := Aside0.mk (below_step (HB_up HB.out) hb)
              clear HO143
              clear HO147
              clear HB
              have HO143 := n0_
              have HO147 := n1_
              have HO159 := n2_
              have HB := n3_
              clear n0_ n1_ n2_ n3_
              clear hb ho18
              refine hK.out _ _ ⟨(ck_ HB.out hw144_0), (ck_ HB.out hw144_1), (ck_ HB.out hw144_2), (ck_ HB.out hw144_3), (ck_ HB.out hw144_4), (ck_ HB.out hw144_5), (ck_ HB.out hw144_6), (ck_ HB.out hw144_7)⟩ (fun hHeld => ?_)
              clear hK K
              refine norm_ (a' := ?_) ?_ ?_
              rotate_left
              · show Act.put _ (some 36) _ = _
                simp only [Act.put, List.setIfInBounds_toArray, List.set_cons_zero, List.set_cons_succ, i64_w, i32_w]
                rfl
              exact norm_ (by first | (simp only [putAll, Act.put, List.setIfInBounds_toArray, List.set_cons_zero, List.set_cons_succ]; done) | (simp only [putAll, Act.put, List.setIfInBounds_toArray, List.set_cons_zero, List.set_cons_succ]; rfl)) (hJ5_19 (v146, v158) _ ⟨hHeld, (R_up HO143.out), (V_up HO147.out), (V_up HO159.out), (HB_up HB.out)⟩)
           ·
            skip
            rintro ⟨v152, v158⟩ w18 ⟨hS_, h0_, h1_, h2_, h3_⟩
            have n0_ : Aside0 (Kd.R (Kd.int .u8) 5 w18 w.heap.size (fun k_ => some k_ ≠ (v152 : Value).ownBlock) (.slice Ao12 y141.length co12) y141) := ⟨h0_⟩
            have n1_ : Aside0 (Kd.R (Kd.int .u8) 5 w18 w.heap.size (fun k_ => some k_ ≠ (.slice Ao12 y141.length co12 : Value).ownBlock) v152 y151) := ⟨h1_⟩
            have n2_ : Aside0 (Kd.V (Kd.int .u8) 5 w18 w.heap.size (fun k_ => some k_ ≠ (.slice Ao12 y141.length co12 : Value).ownBlock ∧ some k_ ≠ (v152 : Value).ownBlock) v158 y157) := ⟨h2_⟩
            have n3_ : Aside0 (Below w.heap.size w w18) := ⟨h3_⟩
            clear HO143
            clear HB
            clear h0_ h1_ h2_ h3_
            have HO143 := n0_
            have HO153 := n1_
            have HO159 := n2_
            have HB := n3_
            clear n0_ n1_ n2_ n3_
            have hHeld : w18.cell? ad140 = some (.int .i64 ((rd_T37 l0 0).f0)) ∧ w18.cell? ⟨ad140.block, ad140.off + 1, none⟩ = some (.string ((rd_T37 l0 0).f1)) ∧ w18.cell? ⟨ad140.block, ad140.off + 2, none⟩ = some (.string ((rd_T37 l0 0).f2)) ∧ w18.cell? ⟨ad140.block, ad140.off + 3, none⟩ = some (.slice A144_3 ((rd_T37 l0 0).f3).length c144_3) ∧ w18.cell? ⟨ad140.block, ad140.off + 4, none⟩ = some (.int .i64 ((rd_T37 l0 0).f4)) ∧ w18.cell? ⟨ad140.block, ad140.off + 5, none⟩ = some (.int .i64 ((rd_T37 l0 0).f5)) ∧ w18.cell? ⟨ad140.block, ad140.off + 6, none⟩ = some (.int .i64 ((rd_T37 l0 0).f6)) ∧ w18.cell? ⟨ad140.block, ad140.off + 7, none⟩ = some (.slice A144_7 ((rd_T37 l0 0).f7).length c144_7) := hS_
            refine norm_ (a' := ?_) ?_ ?_
            rotate_left
            · simp only [putAll, Act.put, List.setIfInBounds_toArray, List.set_cons_zero, List.set_cons_succ]
              rfl
            refine one_ (i := 5) (N := some 22) #[true, true, true, true, true, true, false, true, true, true, true, true, true, true, false, true, true, true, true, true, false, false] rfl rfl (one_of HT_.out (by kernel_rfl)) (by decide) (fun K hK => ?_)
            refine Kd.V_conv_step _ 5 (by rfl) (N' := 22) rfl 9 24 _ rfl Try.underlying9 Try.underlying24 Try.underlying5 ((rd_T37 l0 0).f1) rfl (by have := LMc3.out; omega) (Below.refl _ _) (Nat.le_refl _) ?_
            intro v146 w19 ho20 hb hg_ hnew_
            clear hg_ hnew_
            (first | rw [← Ny145.out] at ho20 | (simp only [Int.reduceToNat] at ho20; rw [← Ny145.out] at ho20))
            have n0_ := Aside0.mk (Kd.R_below (R_up HO143.out) hb)
            have n1_ := Aside0.mk (Kd.R_below (R_up HO153.out) hb)
            have n2_ := Aside0.mk (Kd.V_below (V_up HO159.out) hb)
            have n3_ := Aside0.mk (Kd.V_lower (Kd.V_mono (ok' := fun k_ => some k_ ≠ (.slice Ao12 y141.length co12 : Value).ownBlock ∧ some k_ ≠ (v152 : Value).ownBlock) ho20 (fun k_ hk_ => ⟨(Kd.fresh' (Kd.R_lt (R_up HO143.out)) k_ hk_), (Kd.fresh' (Kd.R_lt (R_up HO153.out)) k_ hk_)⟩)) (below_size (HB_up HB.out)))
            have n4_ := Aside0.mk (below_step (HB_up HB.out) hb)
            clear HO143
            clear HO153
            clear HO159
            clear HB
            have HO143 := n0_
            have HO153 := n1_
            have HO159 := n2_
            have HO147 := n3_
            have HB := n4_
            clear n0_ n1_ n2_ n3_ n4_
            clear hb ho20
            refine hK.out _ _ ⟨(ck_ HB.out hw144_0), (ck_ HB.out hw144_1), (ck_ HB.out hw144_2), (ck_ HB.out hw144_3), (ck_ HB.out hw144_4), (ck_ HB.out hw144_5), (ck_ HB.out hw144_6), (ck_ HB.out hw144_7)⟩ (fun hHeld => ?_)
            clear hK K
            refine norm_ (a' := ?_) ?_ ?_
            rotate_left
            · show Act.put _ (some 22) _ = _
              simp only [Act.put, List.setIfInBounds_toArray, List.set_cons_zero, List.set_cons_succ, i64_w, i32_w]
              rfl
            exact norm_ (by first | (simp only [putAll, Act.put, List.setIfInBounds_toArray, List.set_cons_zero, List.set_cons_succ]; done) | (simp only [putAll, Act.put, List.setIfInBounds_toArray, List.set_cons_zero, List.set_cons_succ]; rfl)) (hJ5_13_19 (v146, v152, v158) _ ⟨hHeld, (R_up HO143.out), (V_up HO147.out), (R_up HO153.out), (V_up HO159.out), (HB_up HB.out)⟩)
          ·
           skip
           rintro ⟨v146, v158⟩ w18 ⟨hS_, h0_, h1_, h2_, h3_⟩
           have n0_ : Aside0 (Kd.R (Kd.int .u8) 5 w18 w.heap.size (fun _ => True) (.slice Ao12 y141.length co12) y141) := ⟨h0_⟩
           have n1_ : Aside0 (Kd.V (Kd.int .u8) 5 w18 w.heap.size (fun k_ => some k_ ≠ (.slice Ao12 y141.length co12 : Value).ownBlock) v146 y145) := ⟨h1_⟩
           have n2_ : Aside0 (Kd.V (Kd.int .u8) 5 w18 w.heap.size (fun k_ => some k_ ≠ (.slice Ao12 y141.length co12 : Value).ownBlock) v158 y157) := ⟨h2_⟩
           have n3_ : Aside0 (Below w.heap.size w w18) := ⟨h3_⟩
           clear HO143
           clear HB
           clear h0_ h1_ h2_ h3_
           have HO143 := n0_
           have HO147 := n1_
           have HO159 := n2_
           have HB := n3_
           clear n0_ n1_ n2_ n3_
           have hHeld : w18.cell? ad140 = some (.int .i64 ((rd_T37 l0 0).f0)) ∧ w18.cell? ⟨ad140.block, ad140.off + 1, none⟩ = some (.string ((rd_T37 l0 0).f1)) ∧ w18.cell? ⟨ad140.block, ad140.off + 2, none⟩ = some (.string ((rd_T37 l0 0).f2)) ∧ w18.cell? ⟨ad140.block, ad140.off + 3, none⟩ = some (.slice A144_3 ((rd_T37 l0 0).f3).length c144_3) ∧ w18.cell? ⟨ad140.block, ad140.off + 4, none⟩ = some (.int .i64 ((rd_T37 l0 0).f4)) ∧ w18.cell? ⟨ad140.block, ad140.off + 5, none⟩ = some (.int .i64 ((rd_T37 l0 0).f5)) ∧ w18.cell? ⟨ad140.block, ad140.off + 6, none⟩ = some (.int .i64 ((rd_T37 l0 0).f6)) ∧ w18.cell? ⟨ad140.block, ad140.off + 7, none⟩ = some (.slice A144_7 ((rd_T37 l0 0).f7).length c144_7) := hS_
           refine norm_ (a' := ?_) ?_ ?_
           rotate_left
           · simp only [putAll, Act.put, List.setIfInBounds_toArray, List.set_cons_zero, List.set_cons_succ]
             rfl
           refine two_ (i := 6) (j := 13) (Ni := some 23) (Nj := some 30) #[true, true, true, true, true, true, true, true, true, true, true, true, true, false, false, true, true, true, true, true, false, false] #[true, true, true, true, true, true, false, true, true, true, true, true, true, true, false, true, true, true, true, true, false, false] rfl rfl rfl rfl (two_of HT_.out (by kernel_rfl)) (by decide) (by decide) (fun K hK => ?_) (fun K hK => ?_)
           ·
            skip
            obtain ⟨Ao20, co20, eo20⟩ := Kd.V_slice HO147.out
            (first | subst eo20 | (injection eo20 with f1_ f2_ f3_; have f4_ := f1_.symm; have f5_ := f3_.symm; clear f1_ f2_ f3_; subst f4_; subst f5_))
            refine Kd.R_append_rows_step (Kd.int .u8) (w0 := w) w.heap.size (by rfl) (.tmp 17) (.tmp 22) 24 5 (.int .u8 0) 1 rfl Try.underlying24 info5 rfl (by decide) (by omega) (.slice Ao12 y141.length co12) y141 y145 _ _ _ (fun _ => True) (fun _ => False) rfl rfl ?aO ?aR (fun _ _ h => h) (fun _ h => h.elim) ?aF ?aB ?aS ?aL ?_
            (case aR => exact C_up (Kd.V_reads' HO147.out).2.2)
            (case aB => exact (HB_up HB.out))
            (case aF => exact (fun _ _ => trivial))
            (case aO => exact (R_up HO143.out))
            (case aS => exact (below_size (HB_up HB.out)))
            (case aL => have := LMc4.out; omega)
            intro v149 w19 ho hb hg hat
            rw [← Ny148.out] at ho
            have n0_ := Aside0.mk (Kd.V_afterv (ok := (fun _ => True)) (by (with_reducible repeat (first | apply Kd.V_alloc | apply Kd.V_drewN | apply Kd.V_drew)); exact Kd.V_mono HO147.out (fun _ hk => ⟨trivial, hk⟩)) hg hat)
            have n1_ := Aside0.mk (Kd.V_afterv (ok := (fun _ => True)) (by (with_reducible repeat (first | apply Kd.V_alloc | apply Kd.V_drewN | apply Kd.V_drew)); exact Kd.V_mono HO159.out (fun _ hk => ⟨trivial, hk⟩)) hg hat)
            have n2_ := Aside0.mk (hb)
            have n3_ := Aside0.mk (ho)
            clear HO147
            clear HO159
            clear HB
            clear HO143
            have HO147 := n0_
            have HO159 := n1_
            have HB := n2_
            have HO150 := n3_
            clear n0_ n1_ n2_ n3_
            clear ho hb hg hat
            refine hK.out _ _ ⟨(ck_ HB.out hw144_0), (ck_ HB.out hw144_1), (ck_ HB.out hw144_2), (ck_ HB.out hw144_3), (ck_ HB.out hw144_4), (ck_ HB.out hw144_5), (ck_ HB.out hw144_6), (ck_ HB.out hw144_7)⟩ (fun hHeld => ?_)
            clear hK K
            refine norm_ (a' := ?_) ?_ ?_
            rotate_left
            · show Act.put _ (some 23) _ = _
              simp only [Act.put, List.setIfInBounds_toArray, List.set_cons_zero, List.set_cons_succ, i64_w, i32_w]
              rfl
            exact norm_ (by first | (simp only [putAll, Act.put, List.setIfInBounds_toArray, List.set_cons_zero, List.set_cons_succ]; done) | (simp only [putAll, Act.put, List.setIfInBounds_toArray, List.set_cons_zero, List.set_cons_succ]; rfl)) (hJ5_6_19 (.slice Ao20 y145.length co20, v149, v158) _ ⟨hHeld, (by (with_reducible repeat (first | apply Kd.V_alloc | apply Kd.V_drewN | apply Kd.V_drew)); exact Kd.V_mono HO147.out (fun _ hk => hk.2)), (R_up HO150.out), (by (with_reducible repeat (first | apply Kd.V_alloc | apply Kd.V_drewN | apply Kd.V_drew)); exact Kd.V_mono HO159.out (fun _ hk => hk.2)), (HB_up HB.out)⟩)
           ·
            skip
            refine Kd.R_lit_step (Kd.int .u8) _ 5 ?hg (N := 30) ?hd (xs := ([((((rd_T37 l0 0).f2).size : Int)) % 256] : List Int)) (inner := [.int .u8 (((((rd_T37 l0 0).f2).size : Int)) % 256)]) (ok := fun _ => True) (okp := fun _ => True) ?hr ?hp (fun _ hk => hk) trivial (Below.refl _ _) (Nat.le_refl _) (by simp) ?_; (case hd => rfl); (case hg => rfl); (case hr => first | (go_simp; done) | (go_simp; rfl)); (case hp => exact (Reps.one (show Kd.M (Kd.int .u8) _ _ _ (((((rd_T37 l0 0).f2).size : Int)) % 256) [.int .u8 (((((rd_T37 l0 0).f2).size : Int)) % 256)] from rfl) (Reps.none _ _)))
            intro v152 w19 ho20 hb hg_ hnew_
            clear hg_ hnew_
            (first | rw [← Ny151.out] at ho20 | (simp only [Int.reduceToNat] at ho20; rw [← Ny151.out] at ho20))
            have n0_ := Aside0.mk (Kd.R_elder' (R_up HO143.out) (Kd.R_base ho20) hb)
            have n1_ := Aside0.mk (Kd.V_elder' (V_up HO147.out) (Kd.R_base ho20) hb)
            have n2_ := Aside0.mk (Kd.V_elder' (V_up HO159.out) (Kd.R_base ho20) hb)
            have n3_ := Aside0.mk (Kd.R_lower (Kd.R_new' ho20 (Kd.R_lt (R_up HO143.out))) (below_size (HB_up HB.out)))
            have n4_ := Aside0.mk (below_step (HB_up HB.out) hb)
            clear HO143
            clear HO147
            clear HO159
            clear HB
            have HO143 := n0_
            have HO147 := n1_
            have HO159 := n2_
            have HO153 := n3_
            have HB := n4_
            clear n0_ n1_ n2_ n3_ n4_
            clear hb ho20
            refine hK.out _ _ ⟨(ck_ HB.out hw144_0), (ck_ HB.out hw144_1), (ck_ HB.out hw144_2), (ck_ HB.out hw144_3), (ck_ HB.out hw144_4), (ck_ HB.out hw144_5), (ck_ HB.out hw144_6), (ck_ HB.out hw144_7)⟩ (fun hHeld => ?_)
            clear hK K
            refine norm_ (a' := ?_) ?_ ?_
            rotate_left
            · show Act.put _ (some 30) _ = _
              simp only [Act.put, List.setIfInBounds_toArray, List.set_cons_zero, List.set_cons_succ, i64_w, i32_w]
              rfl
            exact norm_ (by first | (simp only [putAll, Act.put, List.setIfInBounds_toArray, List.set_cons_zero, List.set_cons_succ]; done) | (simp only [putAll, Act.put, List.setIfInBounds_toArray, List.set_cons_zero, List.set_cons_succ]; rfl)) (hJ5_13_19 (v146, v152, v158) _ ⟨hHeld, (by (with_reducible repeat (first | apply Kd.R_alloc | apply Kd.R_drewN | apply Kd.R_drew)); exact Kd.R_mono HO143.out (fun _ hk => hk.2)), (V_up HO147.out), (by (with_reducible repeat (first | apply Kd.R_alloc | apply Kd.R_drewN | apply Kd.R_drew)); exact Kd.R_mono HO153.out (fun _ hk => hk.2)), (V_up HO159.out), (HB_up HB.out)⟩)
         ·
          skip
          rintro ⟨v146, v152⟩ w18 ⟨hS_, h0_, h1_, h2_, h3_⟩
          have n0_ : Aside0 (Kd.R (Kd.int .u8) 5 w18 w.heap.size (fun k_ => some k_ ≠ (v152 : Value).ownBlock) (.slice Ao12 y141.length co12) y141) := ⟨h0_⟩
          have n1_ : Aside0 (Kd.V (Kd.int .u8) 5 w18 w.heap.size (fun k_ => some k_ ≠ (.slice Ao12 y141.length co12 : Value).ownBlock ∧ some k_ ≠ (v152 : Value).ownBlock) v146 y145) := ⟨h1_⟩
          have n2_ : Aside0 (Kd.R (Kd.int .u8) 5 w18 w.heap.size (fun k_ => some k_ ≠ (.slice Ao12 y141.length co12 : Value).ownBlock) v152 y151) := ⟨h2_⟩
          have n3_ : Aside0 (Below w.heap.size w w18) := ⟨h3_⟩
          clear HO143
          clear HB
          clear h0_ h1_ h2_ h3_
          have HO143 := n0_
          have HO147 := n1_
          have HO153 := n2_
          have HB := n3_
          clear n0_ n1_ n2_ n3_
          have hHeld : w18.cell? ad140 = some (.int .i64 ((rd_T37 l0 0).f0)) ∧ w18.cell? ⟨ad140.block, ad140.off + 1, none⟩ = some (.string ((rd_T37 l0 0).f1)) ∧ w18.cell? ⟨ad140.block, ad140.off + 2, none⟩ = some (.string ((rd_T37 l0 0).f2)) ∧ w18.cell? ⟨ad140.block, ad140.off + 3, none⟩ = some (.slice A144_3 ((rd_T37 l0 0).f3).length c144_3) ∧ w18.cell? ⟨ad140.block, ad140.off + 4, none⟩ = some (.int .i64 ((rd_T37 l0 0).f4)) ∧ w18.cell? ⟨ad140.block, ad140.off + 5, none⟩ = some (.int .i64 ((rd_T37 l0 0).f5)) ∧ w18.cell? ⟨ad140.block, ad140.off + 6, none⟩ = some (.int .i64 ((rd_T37 l0 0).f6)) ∧ w18.cell? ⟨ad140.block, ad140.off + 7, none⟩ = some (.slice A144_7 ((rd_T37 l0 0).f7).length c144_7) := hS_
          refine norm_ (a' := ?_) ?_ ?_
          rotate_left
          · simp only [putAll, Act.put, List.setIfInBounds_toArray, List.set_cons_zero, List.set_cons_succ]
            rfl
          refine two_ (i := 6) (j := 19) (Ni := some 23) (Nj := some 36) #[true, true, true, true, true, true, true, true, true, true, true, true, true, true, false, true, true, true, true, false, false, false] #[true, true, true, true, true, true, false, true, true, true, true, true, true, true, false, true, true, true, true, true, false, false] rfl rfl rfl rfl (two_of HT_.out (by kernel_rfl)) (by decide) (by decide) (fun K hK => ?_) (fun K hK => ?_)
          ·
           skip
           obtain ⟨Ao20, co20, eo20⟩ := Kd.V_slice HO147.out
           (first | subst eo20 | (injection eo20 with f1_ f2_ f3_; have f4_ := f1_.symm; have f5_ := f3_.symm; clear f1_ f2_ f3_; subst f4_; subst f5_))
           refine Kd.R_append_rows_step (Kd.int .u8) (w0 := w) w.heap.size (by rfl) (.tmp 17) (.tmp 22) 24 5 (.int .u8 0) 1 rfl Try.underlying24 info5 rfl (by decide) (by omega) (.slice Ao12 y141.length co12) y141 y145 _ _ _ (fun k_ => some k_ ≠ (v152 : Value).ownBlock) (fun _ => False) rfl rfl ?aO ?aR (fun _ _ h => h) (fun _ h => h.elim) ?aF ?aB ?aS ?aL ?_
           (case aR => exact C_up (Kd.V_reads' HO147.out).2.2)
           (case aB => exact (HB_up HB.out))
           (case aF => exact (fun k_ hk => Kd.fresh' (Kd.R_lt (R_up HO153.out)) k_ hk))
           (case aO => exact (R_up HO143.out))
           (case aS => exact (below_size (HB_up HB.out)))
           (case aL => have := LMc4.out; omega)
           intro v149 w19 ho hb hg hat
           rw [← Ny148.out] at ho
           have n0_ := Aside0.mk (Kd.V_afterv (ok := (fun k_ => some k_ ≠ (v152 : Value).ownBlock)) (by (with_reducible repeat (first | apply Kd.V_alloc | apply Kd.V_drewN | apply Kd.V_drew)); exact Kd.V_mono HO147.out (fun _ hk => ⟨hk.2, hk.1⟩)) hg hat)
           have n1_ := Aside0.mk (Kd.R_after (ok := (fun _ => True)) (by (with_reducible repeat (first | apply Kd.R_alloc | apply Kd.R_drewN | apply Kd.R_drew)); exact Kd.R_mono HO153.out (fun _ hk => ⟨trivial, hk⟩)) hg hat)
           have n2_ := Aside0.mk (hb)
           have n3_ := Aside0.mk (ho)
           clear HO147
           clear HO153
           clear HB
           clear HO143
           have HO147 := n0_
           have HO153 := n1_
           have HB := n2_
           have HO150 := n3_
           clear n0_ n1_ n2_ n3_
           clear ho hb hg hat
           refine hK.out _ _ ⟨(ck_ HB.out hw144_0), (ck_ HB.out hw144_1), (ck_ HB.out hw144_2), (ck_ HB.out hw144_3), (ck_ HB.out hw144_4), (ck_ HB.out hw144_5), (ck_ HB.out hw144_6), (ck_ HB.out hw144_7)⟩ (fun hHeld => ?_)
           clear hK K
           refine norm_ (a' := ?_) ?_ ?_
           rotate_left
           · show Act.put _ (some 23) _ = _
             simp only [Act.put, List.setIfInBounds_toArray, List.set_cons_zero, List.set_cons_succ, i64_w, i32_w]
             rfl
           exact norm_ (by first | (simp only [putAll, Act.put, List.setIfInBounds_toArray, List.set_cons_zero, List.set_cons_succ]; done) | (simp only [putAll, Act.put, List.setIfInBounds_toArray, List.set_cons_zero, List.set_cons_succ]; rfl)) (hJ5_6_13 (.slice Ao20 y145.length co20, v149, v152) _ ⟨hHeld, (by (with_reducible repeat (first | apply Kd.V_alloc | apply Kd.V_drewN | apply Kd.V_drew)); exact Kd.V_mono HO147.out (fun _ hk => ⟨hk.2, hk.1⟩)), (R_up HO150.out), (by (with_reducible repeat (first | apply Kd.R_alloc | apply Kd.R_drewN | apply Kd.R_drew)); exact Kd.R_mono HO153.out (fun _ hk => hk.2)), (HB_up HB.out)⟩)
          ·
           skip
           refine Kd.V_conv_step _ 5 (by rfl) (N' := 36) rfl 9 24 _ rfl Try.underlying9 Try.underlying24 Try.underlying5 ((rd_T37 l0 0).f2) rfl (by have := LMc6.out; omega) (Below.refl _ _) (Nat.le_refl _) ?_
           intro v158 w19 ho20 hb hg_ hnew_
           clear hg_ hnew_
           (first | rw [← Ny157.out] at ho20 | (simp only [Int.reduceToNat] at ho20; rw [← Ny157.out] at ho20))
           have n0_ := Aside0.mk (Kd.R_below (R_up HO143.out) hb)
           have n1_ := Aside0.mk (Kd.V_below (V_up HO147.out) hb)
           have n2_ := Aside0.mk (Kd.R_below (R_up HO153.out) hb)
           have n3_ := Aside0.mk (Kd.V_lower (Kd.V_mono (ok' := fun k_ => some k_ ≠ (.slice Ao12 y141.length co12 : Value).ownBlock ∧ some k_ ≠ (v152 : Value).ownBlock) ho20 (fun k_ hk_ => ⟨(Kd.fresh' (Kd.R_lt (R_up HO143.out)) k_ hk_), (Kd.fresh' (Kd.R_lt (R_up HO153.out)) k_ hk_)⟩)) (below_size (HB_up HB.out)))
           have n4_ := Aside0.mk (below_step (HB_up HB.out) hb)
           clear HO143
           clear HO147
           clear HO153
           clear HB
           have HO143 := n0_
           have HO147 := n1_
           have HO153 := n2_
           have HO159 := n3_
           have HB := n4_
           clear n0_ n1_ n2_ n3_ n4_
           clear hb ho20
           refine hK.out _ _ ⟨(ck_ HB.out hw144_0), (ck_ HB.out hw144_1), (ck_ HB.out hw144_2), (ck_ HB.out hw144_3), (ck_ HB.out hw144_4), (ck_ HB.out hw144_5), (ck_ HB.out hw144_6), (ck_ HB.out hw144_7)⟩ (fun hHeld => ?_)
           clear hK K
           refine norm_ (a' := ?_) ?_ ?_
           rotate_left
           · show Act.put _ (some 36) _ = _
             simp only [Act.put, List.setIfInBounds_toArray, List.set_cons_zero, List.set_cons_succ, i64_w, i32_w]
             rfl
           exact norm_ (by first | (simp only [putAll, Act.put, List.setIfInBounds_toArray, List.set_cons_zero, List.set_cons_succ]; done) | (simp only [putAll, Act.put, List.setIfInBounds_toArray, List.set_cons_zero, List.set_cons_succ]; rfl)) (hJ5_13_19 (v146, v152, v158) _ ⟨hHeld, (R_up HO143.out), (V_up HO147.out), (R_up HO153.out), (V_up HO159.out), (HB_up HB.out)⟩)
        ·
         skip
         rintro ⟨v146, v149⟩ w18 ⟨hS_, h0_, h1_, h2_⟩
         have n0_ : Aside0 (Kd.V (Kd.int .u8) 5 w18 w.heap.size (fun k_ => some k_ ≠ (v149 : Value).ownBlock) v146 y145) := ⟨h0_⟩
         have n1_ : Aside0 (Kd.R (Kd.int .u8) 5 w18 w.heap.size (fun _ => True) v149 y148) := ⟨h1_⟩
         have n2_ : Aside0 (Below w.heap.size w w18) := ⟨h2_⟩
         clear HO143
         clear HB
         clear h0_ h1_ h2_
         have HO147 := n0_
         have HO150 := n1_
         have HB := n2_
         clear n0_ n1_ n2_
         have hHeld : w18.cell? ad140 = some (.int .i64 ((rd_T37 l0 0).f0)) ∧ w18.cell? ⟨ad140.block, ad140.off + 1, none⟩ = some (.string ((rd_T37 l0 0).f1)) ∧ w18.cell? ⟨ad140.block, ad140.off + 2, none⟩ = some (.string ((rd_T37 l0 0).f2)) ∧ w18.cell? ⟨ad140.block, ad140.off + 3, none⟩ = some (.slice A144_3 ((rd_T37 l0 0).f3).length c144_3) ∧ w18.cell? ⟨ad140.block, ad140.off + 4, none⟩ = some (.int .i64 ((rd_T37 l0 0).f4)) ∧ w18.cell? ⟨ad140.block, ad140.off + 5, none⟩ = some (.int .i64 ((rd_T37 l0 0).f5)) ∧ w18.cell? ⟨ad140.block, ad140.off + 6, none⟩ = some (.int .i64 ((rd_T37 l0 0).f6)) ∧ w18.cell? ⟨ad140.block, ad140.off + 7, none⟩ = some (.slice A144_7 ((rd_T37 l0 0).f7).length c144_7) := hS_
         refine norm_ (a' := ?_) ?_ ?_
         rotate_left
         · simp only [putAll, Act.put, List.setIfInBounds_toArray, List.set_cons_zero, List.set_cons_succ]
           rfl
         refine two_ (i := 13) (j := 19) (Ni := some 30) (Nj := some 36) #[true, true, true, true, true, true, true, true, true, true, true, true, true, true, false, true, true, true, true, false, false, false] #[true, true, true, true, true, true, true, true, true, true, true, true, true, false, false, true, true, true, true, true, false, false] rfl rfl rfl rfl (two_of HT_.out (by kernel_rfl)) (by decide) (by decide) (fun K hK => ?_) (fun K hK => ?_)
         ·
          skip
          refine Kd.R_lit_step (Kd.int .u8) _ 5 ?hg (N := 30) ?hd (xs := ([((((rd_T37 l0 0).f2).size : Int)) % 256] : List Int)) (inner := [.int .u8 (((((rd_T37 l0 0).f2).size : Int)) % 256)]) (ok := fun _ => True) (okp := fun _ => True) ?hr ?hp (fun _ hk => hk) trivial (Below.refl _ _) (Nat.le_refl _) (by simp) ?_; (case hd => rfl); (case hg => rfl); (case hr => first | (go_simp; done) | (go_simp; rfl)); (case hp => exact (Reps.one (show Kd.M (Kd.int .u8) _ _ _ (((((rd_T37 l0 0).f2).size : Int)) % 256) [.int .u8 (((((rd_T37 l0 0).f2).size : Int)) % 256)] from rfl) (Reps.none _ _)))
          intro v152 w19 ho20 hb hg_ hnew_
          clear hg_ hnew_
          (first | rw [← Ny151.out] at ho20 | (simp only [Int.reduceToNat] at ho20; rw [← Ny151.out] at ho20))
          have n0_ := Aside0.mk (Kd.V_elder' (V_up HO147.out) (Kd.R_base ho20) hb)
          have n1_ := Aside0.mk (Kd.R_elder' (R_up HO150.out) (Kd.R_base ho20) hb)
          have n2_ := Aside0.mk (Kd.R_lower (Kd.R_new' ho20 (Kd.R_lt (R_up HO150.out))) (below_size (HB_up HB.out)))
          have n3_ := Aside0.mk (below_step (HB_up HB.out) hb)
          clear HO147
          clear HO150
          clear HB
          have HO147 := n0_
          have HO150 := n1_
          have HO153 := n2_
          have HB := n3_
          clear n0_ n1_ n2_ n3_
          clear hb ho20
          refine hK.out _ _ ⟨(ck_ HB.out hw144_0), (ck_ HB.out hw144_1), (ck_ HB.out hw144_2), (ck_ HB.out hw144_3), (ck_ HB.out hw144_4), (ck_ HB.out hw144_5), (ck_ HB.out hw144_6), (ck_ HB.out hw144_7)⟩ (fun hHeld => ?_)
          clear hK K
          refine norm_ (a' := ?_) ?_ ?_
          rotate_left
          · show Act.put _ (some 30) _ = _
            simp only [Act.put, List.setIfInBounds_toArray, List.set_cons_zero, List.set_cons_succ, i64_w, i32_w]
            rfl
          exact norm_ (by first | (simp only [putAll, Act.put, List.setIfInBounds_toArray, List.set_cons_zero, List.set_cons_succ]; done) | (simp only [putAll, Act.put, List.setIfInBounds_toArray, List.set_cons_zero, List.set_cons_succ]; rfl)) (hJ5_6_13 (v146, v149, v152) _ ⟨hHeld, (V_up HO147.out), (by (with_reducible repeat (first | apply Kd.R_alloc | apply Kd.R_drewN | apply Kd.R_drew)); exact Kd.R_mono HO150.out (fun _ hk => hk.2)), (by (with_reducible repeat (first | apply Kd.R_alloc | apply Kd.R_drewN | apply Kd.R_drew)); exact Kd.R_mono HO153.out (fun _ hk => hk.2)), (HB_up HB.out)⟩)
         ·
          skip
          refine Kd.V_conv_step _ 5 (by rfl) (N' := 36) rfl 9 24 _ rfl Try.underlying9 Try.underlying24 Try.underlying5 ((rd_T37 l0 0).f2) rfl (by have := LMc6.out; omega) (Below.refl _ _) (Nat.le_refl _) ?_
          intro v158 w19 ho20 hb hg_ hnew_
          clear hg_ hnew_
          (first | rw [← Ny157.out] at ho20 | (simp only [Int.reduceToNat] at ho20; rw [← Ny157.out] at ho20))
          have n0_ := Aside0.mk (Kd.V_below (V_up HO147.out) hb)
          have n1_ := Aside0.mk (Kd.R_below (R_up HO150.out) hb)
          have n2_ := Aside0.mk (Kd.V_lower (Kd.V_mono (ok' := fun k_ => some k_ ≠ (v149 : Value).ownBlock) ho20 (fun k_ hk_ => (Kd.fresh' (Kd.R_lt (R_up HO150.out)) k_ hk_))) (below_size (HB_up HB.out)))
          have n3_ := Aside0.mk (below_step (HB_up HB.out) hb)
          clear HO147
          clear HO150
          clear HB
          have HO147 := n0_
          have HO150 := n1_
          have HO159 := n2_
          have HB := n3_
          clear n0_ n1_ n2_ n3_
          clear hb ho20
          refine hK.out _ _ ⟨(ck_ HB.out hw144_0), (ck_ HB.out hw144_1), (ck_ HB.out hw144_2), (ck_ HB.out hw144_3), (ck_ HB.out hw144_4), (ck_ HB.out hw144_5), (ck_ HB.out hw144_6), (ck_ HB.out hw144_7)⟩ (fun hHeld => ?_)
          clear hK K
          refine norm_ (a' := ?_) ?_ ?_
          rotate_left
          · show Act.put _ (some 36) _ = _
            simp only [Act.put, List.setIfInBounds_toArray, List.set_cons_zero, List.set_cons_succ, i64_w, i32_w]
            rfl
          exact norm_ (by first | (simp only [putAll, Act.put, List.setIfInBounds_toArray, List.set_cons_zero, List.set_cons_succ]; done) | (simp only [putAll, Act.put, List.setIfInBounds_toArray, List.set_cons_zero, List.set_cons_succ]; rfl)) (hJ5_6_19 (v146, v149, v158) _ ⟨hHeld, (V_up HO147.out), (R_up HO150.out), (V_up HO159.out), (HB_up HB.out)⟩)
       ·
        skip
        rintro ⟨v146, v152, v158⟩ w20 ⟨hS_, h0_, h1_, h2_, h3_, h4_⟩
        have n0_ : Aside0 (Kd.R (Kd.int .u8) 5 w20 w.heap.size (fun k_ => some k_ ≠ (v152 : Value).ownBlock) (.slice Ao12 y141.length co12) y141) := ⟨h0_⟩
        have n1_ : Aside0 (Kd.V (Kd.int .u8) 5 w20 w.heap.size (fun k_ => some k_ ≠ (.slice Ao12 y141.length co12 : Value).ownBlock ∧ some k_ ≠ (v152 : Value).ownBlock) v146 y145) := ⟨h1_⟩
        have n2_ : Aside0 (Kd.R (Kd.int .u8) 5 w20 w.heap.size (fun k_ => some k_ ≠ (.slice Ao12 y141.length co12 : Value).ownBlock) v152 y151) := ⟨h2_⟩
        have n3_ : Aside0 (Kd.V (Kd.int .u8) 5 w20 w.heap.size (fun k_ => some k_ ≠ (.slice Ao12 y141.length co12 : Value).ownBlock ∧ some k_ ≠ (v152 : Value).ownBlock) v158 y157) := ⟨h3_⟩
        have n4_ : Aside0 (Below w.heap.size w w20) := ⟨h4_⟩
        clear HO143
        clear HB
        clear h0_ h1_ h2_ h3_ h4_
        have HO143 := n0_
        have HO147 := n1_
        have HO153 := n2_
        have HO159 := n3_
        have HB := n4_
        clear n0_ n1_ n2_ n3_ n4_
        have hHeld : w20.cell? ad140 = some (.int .i64 ((rd_T37 l0 0).f0)) ∧ w20.cell? ⟨ad140.block, ad140.off + 1, none⟩ = some (.string ((rd_T37 l0 0).f1)) ∧ w20.cell? ⟨ad140.block, ad140.off + 2, none⟩ = some (.string ((rd_T37 l0 0).f2)) ∧ w20.cell? ⟨ad140.block, ad140.off + 3, none⟩ = some (.slice A144_3 ((rd_T37 l0 0).f3).length c144_3) ∧ w20.cell? ⟨ad140.block, ad140.off + 4, none⟩ = some (.int .i64 ((rd_T37 l0 0).f4)) ∧ w20.cell? ⟨ad140.block, ad140.off + 5, none⟩ = some (.int .i64 ((rd_T37 l0 0).f5)) ∧ w20.cell? ⟨ad140.block, ad140.off + 6, none⟩ = some (.int .i64 ((rd_T37 l0 0).f6)) ∧ w20.cell? ⟨ad140.block, ad140.off + 7, none⟩ = some (.slice A144_7 ((rd_T37 l0 0).f7).length c144_7) := hS_
        refine norm_ (a' := ?_) ?_ ?_
        rotate_left
        · simp only [putAll, Act.put, List.setIfInBounds_toArray, List.set_cons_zero, List.set_cons_succ]
          rfl
        refine one_ (i := 6) (N := some 23) #[true, true, true, true, true, true, true, true, true, true, true, true, true, true, false, true, true, true, true, true, false, false] rfl rfl (one_of HT_.out (by kernel_rfl)) (by decide) (fun K hK => ?_)
        obtain ⟨Ao22, co22, eo22⟩ := Kd.V_slice HO147.out
        (first | subst eo22 | (injection eo22 with f1_ f2_ f3_; have f4_ := f1_.symm; have f5_ := f3_.symm; clear f1_ f2_ f3_; subst f4_; subst f5_))
        refine Kd.R_append_rows_step (Kd.int .u8) (w0 := w) w.heap.size (by rfl) (.tmp 17) (.tmp 22) 24 5 (.int .u8 0) 1 rfl Try.underlying24 info5 rfl (by decide) (by omega) (.slice Ao12 y141.length co12) y141 y145 _ _ _ (fun k_ => some k_ ≠ (v152 : Value).ownBlock) (fun _ => False) rfl rfl ?aO ?aR (fun _ _ h => h) (fun _ h => h.elim) ?aF ?aB ?aS ?aL ?_
        (case aR => exact C_up (Kd.V_reads' HO147.out).2.2)
        (case aB => exact (HB_up HB.out))
        (case aF => exact (fun k_ hk => Kd.fresh' (Kd.R_lt (R_up HO153.out)) k_ hk))
        (case aO => exact (R_up HO143.out))
        (case aS => exact (below_size (HB_up HB.out)))
        (case aL => have := LMc4.out; omega)
        intro v149 w21 ho hb hg hat
        rw [← Ny148.out] at ho
        have n0_ := Aside0.mk (Kd.V_afterv (ok := (fun k_ => some k_ ≠ (v152 : Value).ownBlock)) (by (with_reducible repeat (first | apply Kd.V_alloc | apply Kd.V_drewN | apply Kd.V_drew)); exact Kd.V_mono HO147.out (fun _ hk => ⟨hk.2, hk.1⟩)) hg hat)
        have n1_ := Aside0.mk (Kd.R_after (ok := (fun _ => True)) (by (with_reducible repeat (first | apply Kd.R_alloc | apply Kd.R_drewN | apply Kd.R_drew)); exact Kd.R_mono HO153.out (fun _ hk => ⟨trivial, hk⟩)) hg hat)
        have n2_ := Aside0.mk (Kd.V_afterv (ok := (fun k_ => some k_ ≠ (v152 : Value).ownBlock)) (by (with_reducible repeat (first | apply Kd.V_alloc | apply Kd.V_drewN | apply Kd.V_drew)); exact Kd.V_mono HO159.out (fun _ hk => ⟨hk.2, hk.1⟩)) hg hat)
        have n3_ := Aside0.mk (hb)
        have n4_ := Aside0.mk (ho)
        clear HO147
        clear HO153
        clear HO159
        clear HB
        clear HO143
        have HO147 := n0_
        have HO153 := n1_
        have HO159 := n2_
        have HB := n3_
        have HO150 := n4_
        clear n0_ n1_ n2_ n3_ n4_
        clear ho hb hg hat
        refine hK.out _ _ ⟨(ck_ HB.out hw144_0), (ck_ HB.out hw144_1), (ck_ HB.out hw144_2), (ck_ HB.out hw144_3), (ck_ HB.out hw144_4), (ck_ HB.out hw144_5), (ck_ HB.out hw144_6), (ck_ HB.out hw144_7)⟩ (fun hHeld => ?_)
        clear hK K
        refine norm_ (a' := ?_) ?_ ?_
        rotate_left
        · show Act.put _ (some 23) _ = _
          simp only [Act.put, List.setIfInBounds_toArray, List.set_cons_zero, List.set_cons_succ, i64_w, i32_w]
          rfl
        exact norm_ (by first | (simp only [putAll, Act.put, List.setIfInBounds_toArray, List.set_cons_zero, List.set_cons_succ]; done) | (simp only [putAll, Act.put, List.setIfInBounds_toArray, List.set_cons_zero, List.set_cons_succ]; rfl)) (hJ5_6_13_19 (.slice Ao22 y145.length co22, v149, v152, v158) _ ⟨hHeld, (by (with_reducible repeat (first | apply Kd.V_alloc | apply Kd.V_drewN | apply Kd.V_drew)); exact Kd.V_mono HO147.out (fun _ hk => ⟨hk.2, hk.1⟩)), (R_up HO150.out), (by (with_reducible repeat (first | apply Kd.R_alloc | apply Kd.R_drewN | apply Kd.R_drew)); exact Kd.R_mono HO153.out (fun _ hk => hk.2)), (by (with_reducible repeat (first | apply Kd.V_alloc | apply Kd.V_drewN | apply Kd.V_drew)); exact Kd.V_mono HO159.out (fun _ hk => ⟨hk.2, hk.1⟩)), (HB_up HB.out)⟩)
      ·
       skip
       rintro ⟨v146, v149, v158⟩ w20 ⟨hS_, h0_, h1_, h2_, h3_⟩
       have n0_ : Aside0 (Kd.V (Kd.int .u8) 5 w20 w.heap.size (fun k_ => some k_ ≠ (v149 : Value).ownBlock) v146 y145) := ⟨h0_⟩
       have n1_ : Aside0 (Kd.R (Kd.int .u8) 5 w20 w.heap.size (fun _ => True) v149 y148) := ⟨h1_⟩
       have n2_ : Aside0 (Kd.V (Kd.int .u8) 5 w20 w.heap.size (fun k_ => some k_ ≠ (v149 : Value).ownBlock) v158 y157) := ⟨h2_⟩
       have n3_ : Aside0 (Below w.heap.size w w20) := ⟨h3_⟩
       clear HO143
       clear HB
       clear h0_ h1_ h2_ h3_
       have HO147 := n0_
       have HO150 := n1_
       have HO159 := n2_
       have HB := n3_
       clear n0_ n1_ n2_ n3_
       have hHeld : w20.cell? ad140 = some (.int .i64 ((rd_T37 l0 0).f0)) ∧ w20.cell? ⟨ad140.block, ad140.off + 1, none⟩ = some (.string ((rd_T37 l0 0).f1)) ∧ w20.cell? ⟨ad140.block, ad140.off + 2, none⟩ = some (.string ((rd_T37 l0 0).f2)) ∧ w20.cell? ⟨ad140.block, ad140.off + 3, none⟩ = some (.slice A144_3 ((rd_T37 l0 0).f3).length c144_3) ∧ w20.cell? ⟨ad140.block, ad140.off + 4, none⟩ = some (.int .i64 ((rd_T37 l0 0).f4)) ∧ w20.cell? ⟨ad140.block, ad140.off + 5, none⟩ = some (.int .i64 ((rd_T37 l0 0).f5)) ∧ w20.cell? ⟨ad140.block, ad140.off + 6, none⟩ = some (.int .i64 ((rd_T37 l0 0).f6)) ∧ w20.cell? ⟨ad140.block, ad140.off + 7, none⟩ = some (.slice A144_7 ((rd_T37 l0 0).f7).length c144_7) := hS_
       refine norm_ (a' := ?_) ?_ ?_
       rotate_left
       · simp only [putAll, Act.put, List.setIfInBounds_toArray, List.set_cons_zero, List.set_cons_succ]
         rfl
       refine one_ (i := 13) (N := some 30) #[true, true, true, true, true, true, true, true, true, true, true, true, true, true, false, true, true, true, true, true, false, false] rfl rfl (one_of HT_.out (by kernel_rfl)) (by decide) (fun K hK => ?_)
       refine Kd.R_lit_step (Kd.int .u8) _ 5 ?hg (N := 30) ?hd (xs := ([((((rd_T37 l0 0).f2).size : Int)) % 256] : List Int)) (inner := [.int .u8 (((((rd_T37 l0 0).f2).size : Int)) % 256)]) (ok := fun _ => True) (okp := fun _ => True) ?hr ?hp (fun _ hk => hk) trivial (Below.refl _ _) (Nat.le_refl _) (by simp) ?_; (case hd => rfl); (case hg => rfl); (case hr => first | (go_simp; done) | (go_simp; rfl)); (case hp => exact (Reps.one (show Kd.M (Kd.int .u8) _ _ _ (((((rd_T37 l0 0).f2).size : Int)) % 256) [.int .u8 (((((rd_T37 l0 0).f2).size : Int)) % 256)] from rfl) (Reps.none _ _)))
       intro v152 w21 ho22 hb hg_ hnew_
       clear hg_ hnew_
       (first | rw [← Ny151.out] at ho22 | (simp only [Int.reduceToNat] at ho22; rw [← Ny151.out] at ho22))
       have n0_ := Aside0.mk (Kd.V_elder' (V_up HO147.out) (Kd.R_base ho22) hb)
       have n1_ := Aside0.mk (Kd.R_elder' (R_up HO150.out) (Kd.R_base ho22) hb)
       have n2_ := Aside0.mk (Kd.V_elder' (V_up HO159.out) (Kd.R_base ho22) hb)
       have n3_ := Aside0.mk (Kd.R_lower (Kd.R_new' ho22 (Kd.R_lt (R_up HO150.out))) (below_size (HB_up HB.out)))
       have n4_ := Aside0.mk (below_step (HB_up HB.out) hb)
       clear HO147
       clear HO150
       clear HO159
       clear HB
       have HO147 := n0_
       have HO150 := n1_
       have HO159 := n2_
       have HO153 := n3_
       have HB := n4_
       clear n0_ n1_ n2_ n3_ n4_
       clear hb ho22
       refine hK.out _ _ ⟨(ck_ HB.out hw144_0), (ck_ HB.out hw144_1), (ck_ HB.out hw144_2), (ck_ HB.out hw144_3), (ck_ HB.out hw144_4), (ck_ HB.out hw144_5), (ck_ HB.out hw144_6), (ck_ HB.out hw144_7)⟩ (fun hHeld => ?_)
       clear hK K
       refine norm_ (a' := ?_) ?_ ?_
       rotate_left
       · show Act.put _ (some 30) _ = _
         simp only [Act.put, List.setIfInBounds_toArray, List.set_cons_zero, List.set_cons_succ, i64_w, i32_w]
         rfl
       exact norm_ (by first | (simp only [putAll, Act.put, List.setIfInBounds_toArray, List.set_cons_zero, List.set_cons_succ]; done) | (simp only [putAll, Act.put, List.setIfInBounds_toArray, List.set_cons_zero, List.set_cons_succ]; rfl)) (hJ5_6_13_19 (v146, v149, v152, v158) _ ⟨hHeld, (V_up HO147.out), (by (with_reducible repeat (first | apply Kd.R_alloc | apply Kd.R_drewN | apply Kd.R_drew)); exact Kd.R_mono HO150.out (fun _ hk => hk.2)), (by (with_reducible repeat (first | apply Kd.R_alloc | apply Kd.R_drewN | apply Kd.R_drew)); exact Kd.R_mono HO153.out (fun _ hk => hk.2)), (V_up HO159.out), (HB_up HB.out)⟩)
     ·
      skip
      rintro ⟨v146, v149, v152⟩ w20 ⟨hS_, h0_, h1_, h2_, h3_⟩
      have n0_ : Aside0 (Kd.V (Kd.int .u8) 5 w20 w.heap.size (fun k_ => some k_ ≠ (v149 : Value).ownBlock ∧ some k_ ≠ (v152 : Value).ownBlock) v146 y145) := ⟨h0_⟩
      have n1_ : Aside0 (Kd.R (Kd.int .u8) 5 w20 w.heap.size (fun k_ => some k_ ≠ (v152 : Value).ownBlock) v149 y148) := ⟨h1_⟩
      have n2_ : Aside0 (Kd.R (Kd.int .u8) 5 w20 w.heap.size (fun k_ => some k_ ≠ (v149 : Value).ownBlock) v152 y151) := ⟨h2_⟩
      have n3_ : Aside0 (Below w.heap.size w w20) := ⟨h3_⟩
      clear HO143
      clear HB
      clear h0_ h1_ h2_ h3_
      have HO147 := n0_
      have HO150 := n1_
      have HO153 := n2_
      have HB := n3_
      clear n0_ n1_ n2_ n3_
      have hHeld : w20.cell? ad140 = some (.int .i64 ((rd_T37 l0 0).f0)) ∧ w20.cell? ⟨ad140.block, ad140.off + 1, none⟩ = some (.string ((rd_T37 l0 0).f1)) ∧ w20.cell? ⟨ad140.block, ad140.off + 2, none⟩ = some (.string ((rd_T37 l0 0).f2)) ∧ w20.cell? ⟨ad140.block, ad140.off + 3, none⟩ = some (.slice A144_3 ((rd_T37 l0 0).f3).length c144_3) ∧ w20.cell? ⟨ad140.block, ad140.off + 4, none⟩ = some (.int .i64 ((rd_T37 l0 0).f4)) ∧ w20.cell? ⟨ad140.block, ad140.off + 5, none⟩ = some (.int .i64 ((rd_T37 l0 0).f5)) ∧ w20.cell? ⟨ad140.block, ad140.off + 6, none⟩ = some (.int .i64 ((rd_T37 l0 0).f6)) ∧ w20.cell? ⟨ad140.block, ad140.off + 7, none⟩ = some (.slice A144_7 ((rd_T37 l0 0).f7).length c144_7) := hS_
      refine norm_ (a' := ?_) ?_ ?_
      rotate_left
      · simp only [putAll, Act.put, List.setIfInBounds_toArray, List.set_cons_zero, List.set_cons_succ]
        rfl
      refine two_ (i := 14) (j := 19) (Ni := some 31) (Nj := some 36) #[true, true, true, true, true, true, true, true, true, true, true, true, true, true, true, true, true, true, true, false, false, false] #[true, true, true, true, true, true, true, true, true, true, true, true, true, true, false, true, true, true, true, true, false, false] rfl rfl rfl rfl (two_of HT_.out (by kernel_rfl)) (by decide) (by decide) (fun K hK => ?_) (fun K hK => ?_)
      ·
       skip
       obtain ⟨Ao22, co22, eo22⟩ := Kd.R_slice HO153.out
       (first | subst eo22 | (injection eo22 with f1_ f2_ f3_; have f4_ := f1_.symm; have f5_ := f3_.symm; clear f1_ f2_ f3_; subst f4_; subst f5_))
       refine Kd.R_append_rows_step (Kd.int .u8) (w0 := w) w.heap.size (by rfl) (.tmp 23) (.tmp 30) 24 5 (.int .u8 0) 1 rfl Try.underlying24 info5 rfl (by decide) (by omega) v149 y148 y151 _ _ _ (fun k_ => some k_ ≠ (.slice Ao22 y151.length co22 : Value).ownBlock) (fun _ => False) rfl rfl ?aO ?aR (fun _ _ h => h) (fun _ h => h.elim) ?aF ?aB ?aS ?aL ?_
       (case aR => exact C_up (Kd.R_reads' HO153.out).2.2)
       (case aB => exact (HB_up HB.out))
       (case aF => exact (fun k_ hk => Kd.fresh' (Kd.R_lt (R_up HO153.out)) k_ hk))
       (case aO => exact (R_up HO150.out))
       (case aS => exact (below_size (HB_up HB.out)))
       (case aL => have := LMc5.out; omega)
       intro v155 w21 ho hb hg hat
       rw [← Ny154.out] at ho
       have n0_ := Aside0.mk (Kd.V_afterv (ok := (fun k_ => some k_ ≠ (.slice Ao22 y151.length co22 : Value).ownBlock)) (by (with_reducible repeat (first | apply Kd.V_alloc | apply Kd.V_drewN | apply Kd.V_drew)); exact Kd.V_mono HO147.out (fun _ hk => ⟨hk.2, hk.1⟩)) hg hat)
       have n1_ := Aside0.mk (Kd.R_after (ok := (fun _ => True)) (by (with_reducible repeat (first | apply Kd.R_alloc | apply Kd.R_drewN | apply Kd.R_drew)); exact Kd.R_mono HO153.out (fun _ hk => ⟨trivial, hk⟩)) hg hat)
       have n2_ := Aside0.mk (hb)
       have n3_ := Aside0.mk (ho)
       clear HO147
       clear HO153
       clear HB
       clear HO150
       have HO147 := n0_
       have HO153 := n1_
       have HB := n2_
       have HO156 := n3_
       clear n0_ n1_ n2_ n3_
       clear ho hb hg hat
       refine hK.out _ _ ⟨(ck_ HB.out hw144_0), (ck_ HB.out hw144_1), (ck_ HB.out hw144_2), (ck_ HB.out hw144_3), (ck_ HB.out hw144_4), (ck_ HB.out hw144_5), (ck_ HB.out hw144_6), (ck_ HB.out hw144_7)⟩ (fun hHeld => ?_)
       clear hK K
       refine norm_ (a' := ?_) ?_ ?_
       rotate_left
       · show Act.put _ (some 31) _ = _
         simp only [Act.put, List.setIfInBounds_toArray, List.set_cons_zero, List.set_cons_succ, i64_w, i32_w]
         rfl
       exact norm_ (by first | (simp only [putAll, Act.put, List.setIfInBounds_toArray, List.set_cons_zero, List.set_cons_succ]; done) | (simp only [putAll, Act.put, List.setIfInBounds_toArray, List.set_cons_zero, List.set_cons_succ]; rfl)) (hJ5_6_13_14 (v146, v149, .slice Ao22 y151.length co22, v155) _ ⟨hHeld, (V_up HO147.out), (by (with_reducible repeat (first | apply Kd.R_alloc | apply Kd.R_drewN | apply Kd.R_drew)); exact Kd.R_mono HO153.out (fun _ hk => hk.2)), (R_up HO156.out), (HB_up HB.out)⟩)
      ·
       skip
       refine Kd.V_conv_step _ 5 (by rfl) (N' := 36) rfl 9 24 _ rfl Try.underlying9 Try.underlying24 Try.underlying5 ((rd_T37 l0 0).f2) rfl (by have := LMc6.out; omega) (Below.refl _ _) (Nat.le_refl _) ?_
       intro v158 w21 ho22 hb hg_ hnew_
       clear hg_ hnew_
       (first | rw [← Ny157.out] at ho22 | (simp only [Int.reduceToNat] at ho22; rw [← Ny157.out] at ho22))
       have n0_ := Aside0.mk (Kd.V_below (V_up HO147.out) hb)
       have n1_ := Aside0.mk (Kd.R_below (R_up HO150.out) hb)
       have n2_ := Aside0.mk (Kd.R_below (R_up HO153.out) hb)
       have n3_ := Aside0.mk (Kd.V_lower (Kd.V_mono (ok' := fun k_ => some k_ ≠ (v149 : Value).ownBlock ∧ some k_ ≠ (v152 : Value).ownBlock) ho22 (fun k_ hk_ => ⟨(Kd.fresh' (Kd.R_lt (R_up HO150.out)) k_ hk_), (Kd.fresh' (Kd.R_lt (R_up HO153.out)) k_ hk_)⟩)) (below_size (HB_up HB.out)))
       have n4_ := Aside0.mk (below_step (HB_up HB.out) hb)
       clear HO147
       clear HO150
       clear HO153
       clear HB
       have HO147 := n0_
       have HO150 := n1_
       have HO153 := n2_
       have HO159 := n3_
       have HB := n4_
       clear n0_ n1_ n2_ n3_ n4_
       clear hb ho22
       refine hK.out _ _ ⟨(ck_ HB.out hw144_0), (ck_ HB.out hw144_1), (ck_ HB.out hw144_2), (ck_ HB.out hw144_3), (ck_ HB.out hw144_4), (ck_ HB.out hw144_5), (ck_ HB.out hw144_6), (ck_ HB.out hw144_7)⟩ (fun hHeld => ?_)
       clear hK K
       refine norm_ (a' := ?_) ?_ ?_
       rotate_left
       · show Act.put _ (some 36) _ = _
         simp only [Act.put, List.setIfInBounds_toArray, List.set_cons_zero, List.set_cons_succ, i64_w, i32_w]
         rfl
       exact norm_ (by first | (simp only [putAll, Act.put, List.setIfInBounds_toArray, List.set_cons_zero, List.set_cons_succ]; done) | (simp only [putAll, Act.put, List.setIfInBounds_toArray, List.set_cons_zero, List.set_cons_succ]; rfl)) (hJ5_6_13_19 (v146, v149, v152, v158) _ ⟨hHeld, (V_up HO147.out), (R_up HO150.out), (R_up HO153.out), (V_up HO159.out), (HB_up HB.out)⟩)
    ·
     skip
     rintro ⟨v146, v149, v152, v158⟩ w22 ⟨hS_, h0_, h1_, h2_, h3_, h4_⟩
     have n0_ : Aside0 (Kd.V (Kd.int .u8) 5 w22 w.heap.size (fun k_ => some k_ ≠ (v149 : Value).ownBlock ∧ some k_ ≠ (v152 : Value).ownBlock) v146 y145) := ⟨h0_⟩
     have n1_ : Aside0 (Kd.R (Kd.int .u8) 5 w22 w.heap.size (fun k_ => some k_ ≠ (v152 : Value).ownBlock) v149 y148) := ⟨h1_⟩
     have n2_ : Aside0 (Kd.R (Kd.int .u8) 5 w22 w.heap.size (fun k_ => some k_ ≠ (v149 : Value).ownBlock) v152 y151) := ⟨h2_⟩
     have n3_ : Aside0 (Kd.V (Kd.int .u8) 5 w22 w.heap.size (fun k_ => some k_ ≠ (v149 : Value).ownBlock ∧ some k_ ≠ (v152 : Value).ownBlock) v158 y157) := ⟨h3_⟩
     have n4_ : Aside0 (Below w.heap.size w w22) := ⟨h4_⟩
     clear HO143
     clear HB
     clear h0_ h1_ h2_ h3_ h4_
     have HO147 := n0_
     have HO150 := n1_
     have HO153 := n2_
     have HO159 := n3_
     have HB := n4_
     clear n0_ n1_ n2_ n3_ n4_
     have hHeld : w22.cell? ad140 = some (.int .i64 ((rd_T37 l0 0).f0)) ∧ w22.cell? ⟨ad140.block, ad140.off + 1, none⟩ = some (.string ((rd_T37 l0 0).f1)) ∧ w22.cell? ⟨ad140.block, ad140.off + 2, none⟩ = some (.string ((rd_T37 l0 0).f2)) ∧ w22.cell? ⟨ad140.block, ad140.off + 3, none⟩ = some (.slice A144_3 ((rd_T37 l0 0).f3).length c144_3) ∧ w22.cell? ⟨ad140.block, ad140.off + 4, none⟩ = some (.int .i64 ((rd_T37 l0 0).f4)) ∧ w22.cell? ⟨ad140.block, ad140.off + 5, none⟩ = some (.int .i64 ((rd_T37 l0 0).f5)) ∧ w22.cell? ⟨ad140.block, ad140.off + 6, none⟩ = some (.int .i64 ((rd_T37 l0 0).f6)) ∧ w22.cell? ⟨ad140.block, ad140.off + 7, none⟩ = some (.slice A144_7 ((rd_T37 l0 0).f7).length c144_7) := hS_
     refine norm_ (a' := ?_) ?_ ?_
     rotate_left
     · simp only [putAll, Act.put, List.setIfInBounds_toArray, List.set_cons_zero, List.set_cons_succ]
       rfl
     refine one_ (i := 14) (N := some 31) #[true, true, true, true, true, true, true, true, true, true, true, true, true, true, true, true, true, true, true, true, false, false] rfl rfl (one_of HT_.out (by kernel_rfl)) (by decide) (fun K hK => ?_)
     obtain ⟨Ao24, co24, eo24⟩ := Kd.R_slice HO153.out
     (first | subst eo24 | (injection eo24 with f1_ f2_ f3_; have f4_ := f1_.symm; have f5_ := f3_.symm; clear f1_ f2_ f3_; subst f4_; subst f5_))
     refine Kd.R_append_rows_step (Kd.int .u8) (w0 := w) w.heap.size (by rfl) (.tmp 23) (.tmp 30) 24 5 (.int .u8 0) 1 rfl Try.underlying24 info5 rfl (by decide) (by omega) v149 y148 y151 _ _ _ (fun k_ => some k_ ≠ (.slice Ao24 y151.length co24 : Value).ownBlock) (fun _ => False) rfl rfl ?aO ?aR (fun _ _ h => h) (fun _ h => h.elim) ?aF ?aB ?aS ?aL ?_
     (case aR => exact C_up (Kd.R_reads' HO153.out).2.2)
     (case aB => exact (HB_up HB.out))
     (case aF => exact (fun k_ hk => Kd.fresh' (Kd.R_lt (R_up HO153.out)) k_ hk))
     (case aO => exact (R_up HO150.out))
     (case aS => exact (below_size (HB_up HB.out)))
     (case aL => have := LMc5.out; omega)
     intro v155 w23 ho hb hg hat
     rw [← Ny154.out] at ho
     have n0_ := Aside0.mk (Kd.V_afterv (ok := (fun k_ => some k_ ≠ (.slice Ao24 y151.length co24 : Value).ownBlock)) (by (with_reducible repeat (first | apply Kd.V_alloc | apply Kd.V_drewN | apply Kd.V_drew)); exact Kd.V_mono HO147.out (fun _ hk => ⟨hk.2, hk.1⟩)) hg hat)
     have n1_ := Aside0.mk (Kd.R_after (ok := (fun _ => True)) (by (with_reducible repeat (first | apply Kd.R_alloc | apply Kd.R_drewN | apply Kd.R_drew)); exact Kd.R_mono HO153.out (fun _ hk => ⟨trivial, hk⟩)) hg hat)
     have n2_ := Aside0.mk (Kd.V_afterv (ok := (fun k_ => some k_ ≠ (.slice Ao24 y151.length co24 : Value).ownBlock)) (by (with_reducible repeat (first | apply Kd.V_alloc | apply Kd.V_drewN | apply Kd.V_drew)); exact Kd.V_mono HO159.out (fun _ hk => ⟨hk.2, hk.1⟩)) hg hat)
     have n3_ := Aside0.mk (hb)
     have n4_ := Aside0.mk (ho)
     clear HO147
     clear HO153
     clear HO159
     clear HB
     clear HO150
     have HO147 := n0_
     have HO153 := n1_
     have HO159 := n2_
     have HB := n3_
     have HO156 := n4_
     clear n0_ n1_ n2_ n3_ n4_
     clear ho hb hg hat
     refine hK.out _ _ ⟨(ck_ HB.out hw144_0), (ck_ HB.out hw144_1), (ck_ HB.out hw144_2), (ck_ HB.out hw144_3), (ck_ HB.out hw144_4), (ck_ HB.out hw144_5), (ck_ HB.out hw144_6), (ck_ HB.out hw144_7)⟩ (fun hHeld => ?_)
     clear hK K
     refine norm_ (a' := ?_) ?_ ?_
     rotate_left
     · show Act.put _ (some 31) _ = _
       simp only [Act.put, List.setIfInBounds_toArray, List.set_cons_zero, List.set_cons_succ, i64_w, i32_w]
       rfl
     exact norm_ (by first | (simp only [putAll, Act.put, List.setIfInBounds_toArray, List.set_cons_zero, List.set_cons_succ]; done) | (simp only [putAll, Act.put, List.setIfInBounds_toArray, List.set_cons_zero, List.set_cons_succ]; rfl)) (hJ5_6_13_14_19 (v146, v149, .slice Ao24 y151.length co24, v155, v158) _ ⟨hHeld, (V_up HO147.out), (by (with_reducible repeat (first | apply Kd.R_alloc | apply Kd.R_drewN | apply Kd.R_drew)); exact Kd.R_mono HO153.out (fun _ hk => hk.2)), (R_up HO156.out), (V_up HO159.out), (HB_up HB.out)⟩)
   ·
    skip
    rintro ⟨v146, v149, v152, v155⟩ w22 ⟨hS_, h0_, h1_, h2_, h3_⟩
    have n0_ : Aside0 (Kd.V (Kd.int .u8) 5 w22 w.heap.size (fun k_ => some k_ ≠ (v152 : Value).ownBlock ∧ some k_ ≠ (v155 : Value).ownBlock) v146 y145) := ⟨h0_⟩
    have n1_ : Aside0 (Kd.R (Kd.int .u8) 5 w22 w.heap.size (fun k_ => some k_ ≠ (v155 : Value).ownBlock) v152 y151) := ⟨h1_⟩
    have n2_ : Aside0 (Kd.R (Kd.int .u8) 5 w22 w.heap.size (fun k_ => some k_ ≠ (v152 : Value).ownBlock) v155 y154) := ⟨h2_⟩
    have n3_ : Aside0 (Below w.heap.size w w22) := ⟨h3_⟩
    clear HO143
    clear HB
    clear h0_ h1_ h2_ h3_
    have HO147 := n0_
    have HO153 := n1_
    have HO156 := n2_
    have HB := n3_
    clear n0_ n1_ n2_ n3_
    have hHeld : w22.cell? ad140 = some (.int .i64 ((rd_T37 l0 0).f0)) ∧ w22.cell? ⟨ad140.block, ad140.off + 1, none⟩ = some (.string ((rd_T37 l0 0).f1)) ∧ w22.cell? ⟨ad140.block, ad140.off + 2, none⟩ = some (.string ((rd_T37 l0 0).f2)) ∧ w22.cell? ⟨ad140.block, ad140.off + 3, none⟩ = some (.slice A144_3 ((rd_T37 l0 0).f3).length c144_3) ∧ w22.cell? ⟨ad140.block, ad140.off + 4, none⟩ = some (.int .i64 ((rd_T37 l0 0).f4)) ∧ w22.cell? ⟨ad140.block, ad140.off + 5, none⟩ = some (.int .i64 ((rd_T37 l0 0).f5)) ∧ w22.cell? ⟨ad140.block, ad140.off + 6, none⟩ = some (.int .i64 ((rd_T37 l0 0).f6)) ∧ w22.cell? ⟨ad140.block, ad140.off + 7, none⟩ = some (.slice A144_7 ((rd_T37 l0 0).f7).length c144_7) := hS_
    refine norm_ (a' := ?_) ?_ ?_
    rotate_left
    · simp only [putAll, Act.put, List.setIfInBounds_toArray, List.set_cons_zero, List.set_cons_succ]
      rfl
    refine one_ (i := 19) (N := some 36) #[true, true, true, true, true, true, true, true, true, true, true, true, true, true, true, true, true, true, true, true, false, false] rfl rfl (one_of HT_.out (by kernel_rfl)) (by decide) (fun K hK => ?_)
    refine Kd.V_conv_step _ 5 (by rfl) (N' := 36) rfl 9 24 _ rfl Try.underlying9 Try.underlying24 Try.underlying5 ((rd_T37 l0 0).f2) rfl (by have := LMc6.out; omega) (Below.refl _ _) (Nat.le_refl _) ?_
    intro v158 w23 ho24 hb hg_ hnew_
    clear hg_ hnew_
    (first | rw [← Ny157.out] at ho24 | (simp only [Int.reduceToNat] at ho24; rw [← Ny157.out] at ho24))
    have n0_ := Aside0.mk (Kd.V_below (V_up HO147.out) hb)
    have n1_ := Aside0.mk (Kd.R_below (R_up HO153.out) hb)
    have n2_ := Aside0.mk (Kd.R_below (R_up HO156.out) hb)
    have n3_ := Aside0.mk (Kd.V_lower (Kd.V_mono (ok' := fun k_ => some k_ ≠ (v152 : Value).ownBlock ∧ some k_ ≠ (v155 : Value).ownBlock) ho24 (fun k_ hk_ => ⟨(Kd.fresh' (Kd.R_lt (R_up HO153.out)) k_ hk_), (Kd.fresh' (Kd.R_lt (R_up HO156.out)) k_ hk_)⟩)) (below_size (HB_up HB.out)))
    have n4_ := Aside0.mk (below_step (HB_up HB.out) hb)
    clear HO147
    clear HO153
    clear HO156
    clear HB
    have HO147 := n0_
    have HO153 := n1_
    have HO156 := n2_
    have HO159 := n3_
    have HB := n4_
    clear n0_ n1_ n2_ n3_ n4_
    clear hb ho24
    refine hK.out _ _ ⟨(ck_ HB.out hw144_0), (ck_ HB.out hw144_1), (ck_ HB.out hw144_2), (ck_ HB.out hw144_3), (ck_ HB.out hw144_4), (ck_ HB.out hw144_5), (ck_ HB.out hw144_6), (ck_ HB.out hw144_7)⟩ (fun hHeld => ?_)
    clear hK K
    refine norm_ (a' := ?_) ?_ ?_
    rotate_left
    · show Act.put _ (some 36) _ = _
      simp only [Act.put, List.setIfInBounds_toArray, List.set_cons_zero, List.set_cons_succ, i64_w, i32_w]
      rfl
    exact norm_ (by first | (simp only [putAll, Act.put, List.setIfInBounds_toArray, List.set_cons_zero, List.set_cons_succ]; done) | (simp only [putAll, Act.put, List.setIfInBounds_toArray, List.set_cons_zero, List.set_cons_succ]; rfl)) (hJ5_6_13_14_19 (v146, v149, v152, v155, v158) _ ⟨hHeld, (V_up HO147.out), (R_up HO153.out), (R_up HO156.out), (V_up HO159.out), (HB_up HB.out)⟩)
  rintro ⟨v146, v149, v152, v155, v158⟩ w24 ⟨hS_, h0_, h1_, h2_, h3_, h4_⟩
  have n0_ : Aside0 (Kd.V (Kd.int .u8) 5 w24 w.heap.size (fun k_ => some k_ ≠ (v152 : Value).ownBlock ∧ some k_ ≠ (v155 : Value).ownBlock) v146 y145) := ⟨h0_⟩
  have n1_ : Aside0 (Kd.R (Kd.int .u8) 5 w24 w.heap.size (fun k_ => some k_ ≠ (v155 : Value).ownBlock) v152 y151) := ⟨h1_⟩
  have n2_ : Aside0 (Kd.R (Kd.int .u8) 5 w24 w.heap.size (fun k_ => some k_ ≠ (v152 : Value).ownBlock) v155 y154) := ⟨h2_⟩
  have n3_ : Aside0 (Kd.V (Kd.int .u8) 5 w24 w.heap.size (fun k_ => some k_ ≠ (v152 : Value).ownBlock ∧ some k_ ≠ (v155 : Value).ownBlock) v158 y157) := ⟨h3_⟩
  have n4_ : Aside0 (Below w.heap.size w w24) := ⟨h4_⟩
  clear HO143
  clear HB
  clear h0_ h1_ h2_ h3_ h4_
  have HO147 := n0_
  have HO153 := n1_
  have HO156 := n2_
  have HO159 := n3_
  have HB := n4_
  clear n0_ n1_ n2_ n3_ n4_
  have hHeld : w24.cell? ad140 = some (.int .i64 ((rd_T37 l0 0).f0)) ∧ w24.cell? ⟨ad140.block, ad140.off + 1, none⟩ = some (.string ((rd_T37 l0 0).f1)) ∧ w24.cell? ⟨ad140.block, ad140.off + 2, none⟩ = some (.string ((rd_T37 l0 0).f2)) ∧ w24.cell? ⟨ad140.block, ad140.off + 3, none⟩ = some (.slice A144_3 ((rd_T37 l0 0).f3).length c144_3) ∧ w24.cell? ⟨ad140.block, ad140.off + 4, none⟩ = some (.int .i64 ((rd_T37 l0 0).f4)) ∧ w24.cell? ⟨ad140.block, ad140.off + 5, none⟩ = some (.int .i64 ((rd_T37 l0 0).f5)) ∧ w24.cell? ⟨ad140.block, ad140.off + 6, none⟩ = some (.int .i64 ((rd_T37 l0 0).f6)) ∧ w24.cell? ⟨ad140.block, ad140.off + 7, none⟩ = some (.slice A144_7 ((rd_T37 l0 0).f7).length c144_7) := hS_
  obtain ⟨Ao26, co26, eo26⟩ := Kd.V_slice HO159.out
  (first | subst eo26 | (injection eo26 with f1_ f2_ f3_; have f4_ := f1_.symm; have f5_ := f3_.symm; clear f1_ f2_ f3_; subst f4_; subst f5_))
  refine norm_ (a' := ?_) ?_ ?_
  rotate_left
  · simp only [putAll, Act.put, List.setIfInBounds_toArray, List.set_cons_zero, List.set_cons_succ]
    rfl
  refine one_ (i := 20) (N := some 37) #[true, true, true, true, true, true, true, true, true, true, true, true, true, true, true, true, true, true, true, true, true, false] rfl rfl (one_of HT_.out (by kernel_rfl)) (by decide) (fun K hK => ?_)
  refine Kd.R_append_rows_step (Kd.int .u8) (w0 := w) w.heap.size (by rfl) (.tmp 31) (.tmp 36) 24 5 (.int .u8 0) 1 rfl Try.underlying24 info5 rfl (by decide) (by omega) v155 y154 y157 _ _ _ (fun k_ => some k_ ≠ (v152 : Value).ownBlock) (fun _ => False) rfl rfl ?aO ?aR (fun _ _ h => h) (fun _ h => h.elim) ?aF ?aB ?aS ?aL ?_
  (case aR => exact C_up (Kd.V_reads' HO159.out).2.2)
  (case aB => exact (HB_up HB.out))
  (case aF => exact (fun k_ hk => Kd.fresh' (Kd.R_lt (R_up HO153.out)) k_ hk))
  (case aO => exact (R_up HO156.out))
  (case aS => exact (below_size (HB_up HB.out)))
  (case aL => have := LMc7.out; omega)
  intro v161 w25 ho hb hg hat
  rw [← Ny160.out] at ho
  have n0_ := Aside0.mk (Kd.V_afterv (ok := (fun k_ => some k_ ≠ (v152 : Value).ownBlock)) (V_up HO147.out) hg hat)
  have n1_ := Aside0.mk (Kd.R_after (ok := (fun _ => True)) (by (with_reducible repeat (first | apply Kd.R_alloc | apply Kd.R_drewN | apply Kd.R_drew)); exact Kd.R_mono HO153.out (fun _ hk => ⟨trivial, hk⟩)) hg hat)
  have n2_ := Aside0.mk (Kd.V_afterv (ok := (fun k_ => some k_ ≠ (v152 : Value).ownBlock)) (V_up HO159.out) hg hat)
  have n3_ := Aside0.mk (hb)
  have n4_ := Aside0.mk (ho)
  clear HO147
  clear HO153
  clear HO159
  clear HB
  clear HO156
  have HO147 := n0_
  have HO153 := n1_
  have HO159 := n2_
  have HB := n3_
  have HO162 := n4_
  clear n0_ n1_ n2_ n3_ n4_
  clear ho hb hg hat
  refine hK.out _ _ ⟨(ck_ HB.out hw144_0), (ck_ HB.out hw144_1), (ck_ HB.out hw144_2), (ck_ HB.out hw144_3), (ck_ HB.out hw144_4), (ck_ HB.out hw144_5), (ck_ HB.out hw144_6), (ck_ HB.out hw144_7)⟩ (fun hHeld => ?_)
  clear hK K
  refine norm_ (a' := ?_) ?_ ?_
  rotate_left
  · show Act.put _ (some 37) _ = _
    simp only [Act.put, List.setIfInBounds_toArray, List.set_cons_zero, List.set_cons_succ, i64_w, i32_w]
    rfl
  refine pure_ (i := 21) (N := some 3) (v := ?_) (a' := ?_) #[true, true, true, true, true, true, true, true, true, true, true, true, true, true, true, true, true, true, true, true, true, true] rfl rfl (any_of HT_.out (by kernel_rfl)) (fun _ _ _ h => h) (Or.inl ⟨by rfl, ?_⟩) ?_ ?_; rotate_left
  · intro w'; go_simp; all_goals (first | with_reducible rfl | (simp [Instr.field, go_sem]; rfl))
  rotate_left
  · simp only [Act.put, List.setIfInBounds_toArray, List.set_cons_zero, List.set_cons_succ, i64_w, i32_w]; rfl
  refine done_ (done_of HT_.out (by kernel_rfl)) ?_
  have p163 : 0 ≤ (0 : Int) := (by omega)
  have q163 : 0 < (l0.length : Int) := od_
  obtain ⟨ad163, A163_3, c163_3, A163_7, c163_7, e163, hx163_0, hx163_1, hx163_2, hx163_3, hx163_4, hx163_5, hx163_6, hx163_7, hl163_3, hi163_3, hl163_7, hi163_7⟩ := at_T37 HR0.out 0 p163 q163
  obtain rfl : ad140 = ad163 := (by injection e163)
  have qi163 : (0 < l0.length) = True := eq_true (by omega)
  (try simp only [Int.toNat_zero, Nat.zero_mul, Addr.add_zero'] at hx163_0 hx163_1 hx163_2 hx163_3 hx163_4 hx163_5 hx163_6 hx163_7)
  replace hx163_0 := ck_ HB.out hx163_0
  replace hx163_1 := ck_ HB.out hx163_1
  replace hx163_2 := ck_ HB.out hx163_2
  replace hx163_3 := ck_ HB.out hx163_3
  replace hx163_4 := ck_ HB.out hx163_4
  replace hx163_5 := ck_ HB.out hx163_5
  replace hx163_6 := ck_ HB.out hx163_6
  replace hx163_7 := ck_ HB.out hx163_7
  have HR163_3 := Aside0.mk hi163_3
  have HC163_3 := Aside0.mk hl163_3
  clear hi163_3 hl163_3
  have HR163_7 := Aside0.mk hi163_7
  have HC163_7 := Aside0.mk hl163_7
  clear hi163_7 hl163_7
  replace p163 := eq_true p163
  replace q163 := eq_true q163
  try go_wp2_with (first | ((with_reducible refine gate_dst (N := 45) rfl ?_); refine Kd.R_lit (Kd.int .u8) _ 5 ?hg (N := 45) ?hd (xs := ([((((rd_T37 l0 0).f3).length : Int)) % 256] : List Int)) (inner := [.int .u8 (((((rd_T37 l0 0).f3).length : Int)) % 256)]) (ok := fun _ => True) (okp := fun _ => True) ?hr ?hp (fun _ hk => hk) trivial (Below.refl _ _) (Nat.le_refl _) (by simp) ?_; (case hd => rfl); (case hg => rfl); (case hr => first | (go_simp; done) | (go_simp; rfl)); (case hp => exact (Reps.one (show Kd.M (Kd.int .u8) _ _ _ (((((rd_T37 l0 0).f3).length : Int)) % 256) [.int .u8 (((((rd_T37 l0 0).f3).length : Int)) % 256)] from rfl) (Reps.none _ _))); intro v165 w27 ho28 hb hg_ hnew_; clear hg_ hnew_; (first | rw [← Ny164.out] at ho28 | (simp only [Int.reduceToNat] at ho28; rw [← Ny164.out] at ho28)); have n0_ := Aside0.mk (Kd.V_elder' (V_up HO147.out) (Kd.R_base ho28) hb); have n1_ := Aside0.mk (Kd.R_elder' (R_up HO153.out) (Kd.R_base ho28) hb); have n2_ := Aside0.mk (Kd.V_elder' (V_up HO159.out) (Kd.R_base ho28) hb); have n3_ := Aside0.mk (Kd.R_elder' (R_up HO162.out) (Kd.R_base ho28) hb); have n4_ := Aside0.mk (Kd.R_lower (Kd.R_new' (Kd.R_new' ho28 (Kd.R_lt (R_up HO153.out))) (Kd.R_lt (R_up HO162.out))) (below_size (HB_up HB.out))); have n5_ := Aside0.mk (below_step (HB_up HB.out) hb); clear HO147; clear HO153; clear HO159; clear HO162; clear HB; have HO147 := n0_; have HO153 := n1_; have HO159 := n2_; have HO162 := n3_; have HO166 := n4_; have HB := n5_; clear n0_ n1_ n2_ n3_ n4_ n5_; clear hb ho28; obtain ⟨Ao30, co30, eo30⟩ := Kd.R_slice HO166.out; subst eo30) | ((with_reducible refine gate_builtin (b := .append) (xs := #[.tmp 38, .tmp 45]) rfl ?_); at_builtin; refine Kd.R_append_rows (Kd.int .u8) (w0 := w) w.heap.size rfl (.tmp 38) (.tmp 45) 24 5 (.int .u8 0) 1 rfl Try.underlying24 info5 rfl (by decide) (by omega) v161 y160 y164 _ _ _ (fun k_ => some k_ ≠ (v152 : Value).ownBlock ∧ some k_ ≠ (.slice Ao30 y164.length co30 : Value).ownBlock) (fun _ => False) rfl rfl ?aO ?aR (fun _ _ h => h) (fun _ h => h.elim) ?aF ?aB ?aS ?aL ?_; (case aR => exact C_up (Kd.R_reads' HO166.out).2.2); (case aB => exact (HB_up HB.out)); (case aF => exact (fun k_ hk => ⟨Kd.fresh' (Kd.R_lt (R_up HO153.out)) k_ hk, Kd.fresh' (Kd.R_lt (R_up HO166.out)) k_ hk⟩)); (case aO => exact (R_up HO162.out)); (case aS => exact (below_size (HB_up HB.out))); (case aL => have := LMc8.out; omega); intro v168 w29 ho hb hg hat; rw [← Ny167.out] at ho; have n0_ := Aside0.mk (Kd.V_afterv (ok := (fun k_ => some k_ ≠ (v152 : Value).ownBlock ∧ some k_ ≠ (.slice Ao30 y164.length co30 : Value).ownBlock)) (by (with_reducible repeat (first | apply Kd.V_alloc | apply Kd.V_drewN | apply Kd.V_drew)); exact Kd.V_mono HO147.out (fun _ hk => ⟨⟨hk.1.1, hk.2⟩, hk.1.2⟩)) hg hat); have n1_ := Aside0.mk (Kd.R_after (ok := (fun k_ => some k_ ≠ (.slice Ao30 y164.length co30 : Value).ownBlock)) (by (with_reducible repeat (first | apply Kd.R_alloc | apply Kd.R_drewN | apply Kd.R_drew)); exact Kd.R_mono HO153.out (fun _ hk => ⟨hk.2, hk.1.2⟩)) hg hat); have n2_ := Aside0.mk (Kd.V_afterv (ok := (fun k_ => some k_ ≠ (v152 : Value).ownBlock ∧ some k_ ≠ (.slice Ao30 y164.length co30 : Value).ownBlock)) (by (with_reducible repeat (first | apply Kd.V_alloc | apply Kd.V_drewN | apply Kd.V_drew)); exact Kd.V_mono HO159.out (fun _ hk => ⟨⟨hk.1.1, hk.2⟩, hk.1.2⟩)) hg hat); have n3_ := Aside0.mk (Kd.R_after (ok := (fun k_ => some k_ ≠ (v152 : Value).ownBlock)) (by (with_reducible repeat (first | apply Kd.R_alloc | apply Kd.R_drewN | apply Kd.R_drew)); exact Kd.R_mono HO166.out (fun _ hk => ⟨hk.1.2, hk.2⟩)) hg hat); have n4_ := Aside0.mk (hb); have n5_ := Aside0.mk (ho); clear HO147; clear HO153; clear HO159; clear HO166; clear HB; clear HO162; have HO147 := n0_; have HO153 := n1_; have HO159 := n2_; have HO166 := n3_; have HB := n4_; have HO169 := n5_; clear n0_ n1_ n2_ n3_ n4_ n5_; clear ho hb hg hat))
  go_loopg [3, 4] k (fun kq v3 v4 w' => ∃ (x3_1 : List Int) (x4_1 : Int), v4 = .int .i64 x4_1 ∧ Aside0 (spec_l9Pack.l0 kq l0 x3_1 x4_1 = some r) ∧ Aside0 (kq ≤ k) ∧ Aside0 (Kd.R (Kd.int .u8) 5 w' w.heap.size (fun _ => True) v3 x3_1) ∧ Aside0 (Below w.heap.size w w'))
  case atStart => exact ⟨(y167), (0), vl_, H', ⟨Nat.le_refl _⟩, ⟨by (with_reducible repeat (first | apply Kd.R_alloc | apply Kd.R_drewN | apply Kd.R_drew)); exact Kd.R_mono HO169.out (fun _ hk => trivial)⟩, ⟨hb_⟩⟩
  case round =>
   clear H'
   try clear q1
   try clear hx1
   try clear qi1
   try clear c4
   try clear c5
   try clear c6
   try clear c7
   try clear c8
   try clear q16
   try clear hx16
   try clear qi16
   try clear hx163_0
   try clear hx163_1
   try clear hx163_2
   try clear hx163_3
   try clear hx163_4
   try clear hx163_5
   try clear hx163_6
   try clear hx163_7
   try clear p163
   try clear q163
   obtain ⟨x3_1, x4_1, rfl, HA, HK1, HO_3, HB⟩ := hrel
   cases gk with
   | zero => exact absurd HA.out (by simp [spec_l9Pack.l0])
   | succ k1 =>
     have H := HA.out
     clear HA
     simp only [spec_l9Pack.l0] at H
     by_cases c31 : 0 < (l0.length : Int)
     case neg => rw [if_neg c31] at H; exact absurd H (by simp)
     rw [if_pos c31] at H
     have c31b0 : decide (0 < (l0.length : Int)) = true := decide_eq_true c31
     have c31b1 : decide (0 < l0.length) = true := decide_eq_true (by omega)
     clear c31
     by_cases c32 : x4_1 < (((rd_T37 l0 0).f3).length : Int)
     ·
      rw [if_pos c32] at H
      have c32b0 : decide (x4_1 < (((rd_T37 l0 0).f3).length : Int)) = true := decide_eq_true c32
      clear c32
      by_cases c33 : 0 ≤ x4_1
      case neg => rw [if_neg c33] at H; exact absurd H (by simp)
      rw [if_pos c33] at H
      have c33b0 : decide (0 ≤ x4_1) = true := decide_eq_true c33
      clear c33
      replace H := Option.bind_eq_some_iff.mp H
      obtain ⟨t173, A340, H⟩ := H
      (try dsimp only at H)
      have A34 := Aside0.mk A340
      clear A340
      by_cases c35 : x3_1.length + t173.length < 140737488355328
      case neg => rw [if_neg c35] at H; exact absurd H (by simp)
      rw [if_pos c35] at H
      have LMc35 := Aside0.mk c35
      clear c35
      obtain ⟨y176, hy176⟩ : ∃ y_ : List Int, y_ = (x3_1 ++ t173) := ⟨_, rfl⟩
      replace H : (spec_l9Pack.l0 k1 l0 y176 (wrap64 (x4_1 + 1))) = some r := by first | (rw [hy176]; with_reducible exact H) | (have H2_ := (Option.bind_some _ _).symm.trans H; rw [hy176]; with_reducible exact H2_) | (have H2_ := (Option.bind_some _ _).symm.trans H; with_reducible exact H2_) | with_reducible exact H | (rw [hy176]; exact H) | exact H
      have Ny176 := Aside0.mk hy176
      clear hy176
      have H' := Aside0.mk H
      clear H
      have p170 : 0 ≤ (0 : Int) := (by omega)
      have q170 : 0 < (l0.length : Int) := od_
      obtain ⟨ad170, A170_3, c170_3, A170_7, c170_7, e170, hx170_0, hx170_1, hx170_2, hx170_3, hx170_4, hx170_5, hx170_6, hx170_7, hl170_3, hi170_3, hl170_7, hi170_7⟩ := at_T37 HR0.out 0 p170 q170
      obtain rfl : ad140 = ad170 := (by injection e170)
      have qi170 : (0 < l0.length) = True := eq_true (by omega)
      (try simp only [Int.toNat_zero, Nat.zero_mul, Addr.add_zero'] at hx170_0 hx170_1 hx170_2 hx170_3 hx170_4 hx170_5 hx170_6 hx170_7)
      replace hx170_0 := ck_ HB.out hx170_0
      replace hx170_1 := ck_ HB.out hx170_1
      replace hx170_2 := ck_ HB.out hx170_2
      replace hx170_3 := ck_ HB.out hx170_3
      replace hx170_4 := ck_ HB.out hx170_4
      replace hx170_5 := ck_ HB.out hx170_5
      replace hx170_6 := ck_ HB.out hx170_6
      replace hx170_7 := ck_ HB.out hx170_7
      have HR170_3 := Aside0.mk hi170_3
      have HC170_3 := Aside0.mk hl170_3
      clear hi170_3 hl170_3
      have HR170_7 := Aside0.mk hi170_7
      have HC170_7 := Aside0.mk hl170_7
      clear hi170_7 hl170_7
      replace p170 := eq_true p170
      replace q170 := eq_true q170
      (try clear hx163_0 hx163_1 hx163_2 hx163_3 hx163_4 hx163_5 hx163_6 hx163_7)
      have p172 : 0 ≤ (x4_1 : Int) := od_
      have q172 : x4_1 < (((rd_T37 l0 0).f3).length : Int) := od_
      obtain ⟨ad172, e172, hx172_0⟩ := Kd.at_int HR170_3.out x4_1 p172 q172
      cases e172
      replace hx172_0 := ck_ HB.out hx172_0
      replace p172 := eq_true p172
      replace q172 := eq_true q172
      go_wp2_with (first | ((with_reducible refine gate_callee (f := 73) rfl ?_); refine goesY_ (some 64) Try.func73 #[.int .i64 (rd ((rd_T37 l0 0).f3) x4_1)] rfl ?_; (with_reducible refine (spec_l9Two.calls (rd ((rd_T37 l0 0).f3) x4_1) t173 _ A34.out).mono ?_); rintro e w36 ⟨v174, rfl, ho0, hb⟩; refine ⟨_, rfl, ?_⟩; have n0_ := Aside0.mk (Kd.R_elder' (R_up HO_3.out) (Kd.R_base ho0) hb); have n1_ := Aside0.mk (Kd.R_lower (Kd.R_new' ho0 (Kd.R_lt (R_up HO_3.out))) (below_size (HB_up HB.out))); have n2_ := Aside0.mk (below_step (HB_up HB.out) hb); clear HO_3; clear HB; have HO_3 := n0_; have HO175 := n1_; have HB := n2_; clear n0_ n1_ n2_; (try clear hb); (try clear hb2); (try clear hk); (try clear hi); (try clear ho0); obtain ⟨Ao38, co38, eo38⟩ := Kd.R_slice HO175.out; subst eo38) | ((with_reducible refine gate_builtin (b := .append) (xs := #[.tmp 56, .tmp 64]) rfl ?_); at_builtin; refine Kd.R_append_rows (Kd.int .u8) (w0 := w) w.heap.size rfl (.tmp 56) (.tmp 64) 24 5 (.int .u8 0) 1 rfl Try.underlying24 info5 rfl (by decide) (by omega) u3 x3_1 t173 _ _ _ (fun k_ => some k_ ≠ (.slice Ao38 t173.length co38 : Value).ownBlock) (fun _ => False) rfl rfl ?aO ?aR (fun _ _ h => h) (fun _ h => h.elim) ?aF ?aB ?aS ?aL ?_; (case aR => exact C_up (Kd.R_reads' HO175.out).2.2); (case aB => exact (HB_up HB.out)); (case aF => exact (fun k_ hk => Kd.fresh' (Kd.R_lt (R_up HO175.out)) k_ hk)); (case aO => exact (by (with_reducible repeat (first | apply Kd.R_alloc | apply Kd.R_drewN | apply Kd.R_drew)); exact Kd.R_mono HO_3.out (fun _ hk => hk.2))); (case aS => exact (below_size (HB_up HB.out))); (case aL => have := LMc35.out; omega); intro v177 w37 ho hb hg hat; rw [← Ny176.out] at ho; have n0_ := Aside0.mk (Kd.R_after (ok := (fun _ => True)) (R_up HO175.out) hg hat); have n1_ := Aside0.mk (hb); have n2_ := Aside0.mk (ho); clear HO175; clear HB; clear HO_3; have HO175 := n0_; have HB := n1_; have HO178 := n2_; clear n0_ n1_ n2_; clear ho hb hg hat))
      go_roundg k1
      case measure => have := HK1.out; omega
      case rel => exact ⟨(y176), (wrap64 (x4_1 + 1)), vl_, H', ⟨by have := HK1.out; omega⟩, ⟨by (with_reducible repeat (first | apply Kd.R_alloc | apply Kd.R_drewN | apply Kd.R_drew)); exact Kd.R_mono HO178.out (fun _ hk => trivial)⟩, ⟨hb_⟩⟩
     ·
      rw [if_neg c32] at H
      have c32b0 : decide (x4_1 < (((rd_T37 l0 0).f3).length : Int)) = false := decide_eq_false c32
      clear c32
      obtain ⟨y180, hy180⟩ : ∃ y_ : List Int, y_ = (([((rd_T37 l0 0).f4) % 256, ((rd_T37 l0 0).f5) % 256] : List Int)) := ⟨_, rfl⟩
      replace H : (if x3_1.length + y180.length < 140737488355328 then ((some (x3_1 ++ y180 : List Int)).bind fun y183 => ((spec_l9Two.f ((rd_T37 l0 0).f6)).bind fun t186 => (if y183.length + t186.length < 140737488355328 then ((some (y183 ++ t186 : List Int)).bind fun y189 => ((spec_l9Two.f (((rd_T37 l0 0).f7).length : Int)).bind fun t193 => (if y189.length + t193.length < 140737488355328 then ((some (y189 ++ t193 : List Int)).bind fun y196 => (if y196.length + ((rd_T37 l0 0).f7).length < 140737488355328 then ((some (y196 ++ ((rd_T37 l0 0).f7) : List Int)).bind fun y199 => ((spec_l9Two.f (wrap64 ((y199.length : Int) + 2))).bind fun t202 => ((some (cpy y199 t202 : List Int)).bind fun y205 => ((spec_l9Sum.f k1 y205).bind fun t208 => ((spec_l9Two.f t208).bind fun t209 => (if y205.length + t209.length < 140737488355328 then (some (y205 ++ t209)) else (none))))))) else (none))) else (none)))) else (none)))) else (none)) = some r := by first | (rw [hy180]; with_reducible exact H) | (have H2_ := (Option.bind_some _ _).symm.trans H; rw [hy180]; with_reducible exact H2_) | (have H2_ := (Option.bind_some _ _).symm.trans H; with_reducible exact H2_) | with_reducible exact H | (rw [hy180]; exact H) | exact H
      have Ny180 := Aside0.mk hy180
      clear hy180
      by_cases c39 : x3_1.length + y180.length < 140737488355328
      case neg => rw [if_neg c39] at H; exact absurd H (by simp)
      rw [if_pos c39] at H
      have LMc39 := Aside0.mk c39
      clear c39
      obtain ⟨y183, hy183⟩ : ∃ y_ : List Int, y_ = (x3_1 ++ y180) := ⟨_, rfl⟩
      replace H : ((spec_l9Two.f ((rd_T37 l0 0).f6)).bind fun t186 => (if y183.length + t186.length < 140737488355328 then ((some (y183 ++ t186 : List Int)).bind fun y189 => ((spec_l9Two.f (((rd_T37 l0 0).f7).length : Int)).bind fun t193 => (if y189.length + t193.length < 140737488355328 then ((some (y189 ++ t193 : List Int)).bind fun y196 => (if y196.length + ((rd_T37 l0 0).f7).length < 140737488355328 then ((some (y196 ++ ((rd_T37 l0 0).f7) : List Int)).bind fun y199 => ((spec_l9Two.f (wrap64 ((y199.length : Int) + 2))).bind fun t202 => ((some (cpy y199 t202 : List Int)).bind fun y205 => ((spec_l9Sum.f k1 y205).bind fun t208 => ((spec_l9Two.f t208).bind fun t209 => (if y205.length + t209.length < 140737488355328 then (some (y205 ++ t209)) else (none))))))) else (none))) else (none)))) else (none))) = some r := by first | (rw [hy183]; with_reducible exact H) | (have H2_ := (Option.bind_some _ _).symm.trans H; rw [hy183]; with_reducible exact H2_) | (have H2_ := (Option.bind_some _ _).symm.trans H; with_reducible exact H2_) | with_reducible exact H | (rw [hy183]; exact H) | exact H
      have Ny183 := Aside0.mk hy183
      clear hy183
      replace H := Option.bind_eq_some_iff.mp H
      obtain ⟨t186, A400, H⟩ := H
      (try dsimp only at H)
      have A40 := Aside0.mk A400
      clear A400
      by_cases c41 : y183.length + t186.length < 140737488355328
      case neg => rw [if_neg c41] at H; exact absurd H (by simp)
      rw [if_pos c41] at H
      have LMc41 := Aside0.mk c41
      clear c41
      obtain ⟨y189, hy189⟩ : ∃ y_ : List Int, y_ = (y183 ++ t186) := ⟨_, rfl⟩
      replace H : ((spec_l9Two.f (((rd_T37 l0 0).f7).length : Int)).bind fun t193 => (if y189.length + t193.length < 140737488355328 then ((some (y189 ++ t193 : List Int)).bind fun y196 => (if y196.length + ((rd_T37 l0 0).f7).length < 140737488355328 then ((some (y196 ++ ((rd_T37 l0 0).f7) : List Int)).bind fun y199 => ((spec_l9Two.f (wrap64 ((y199.length : Int) + 2))).bind fun t202 => ((some (cpy y199 t202 : List Int)).bind fun y205 => ((spec_l9Sum.f k1 y205).bind fun t208 => ((spec_l9Two.f t208).bind fun t209 => (if y205.length + t209.length < 140737488355328 then (some (y205 ++ t209)) else (none))))))) else (none))) else (none))) = some r := by first | (rw [hy189]; with_reducible exact H) | (have H2_ := (Option.bind_some _ _).symm.trans H; rw [hy189]; with_reducible exact H2_) | (have H2_ := (Option.bind_some _ _).symm.trans H; with_reducible exact H2_) | with_reducible exact H | (rw [hy189]; exact H) | exact H
      have Ny189 := Aside0.mk hy189
      clear hy189
      replace H := Option.bind_eq_some_iff.mp H
      obtain ⟨t193, A420, H⟩ := H
      (try dsimp only at H)
      have A42 := Aside0.mk A420
      clear A420
      by_cases c43 : y189.length + t193.length < 140737488355328
      case neg => rw [if_neg c43] at H; exact absurd H (by simp)
      rw [if_pos c43] at H
      have LMc43 := Aside0.mk c43
      clear c43
      obtain ⟨y196, hy196⟩ : ∃ y_ : List Int, y_ = (y189 ++ t193) := ⟨_, rfl⟩
      replace H : (if y196.length + ((rd_T37 l0 0).f7).length < 140737488355328 then ((some (y196 ++ ((rd_T37 l0 0).f7) : List Int)).bind fun y199 => ((spec_l9Two.f (wrap64 ((y199.length : Int) + 2))).bind fun t202 => ((some (cpy y199 t202 : List Int)).bind fun y205 => ((spec_l9Sum.f k1 y205).bind fun t208 => ((spec_l9Two.f t208).bind fun t209 => (if y205.length + t209.length < 140737488355328 then (some (y205 ++ t209)) else (none))))))) else (none)) = some r := by first | (rw [hy196]; with_reducible exact H) | (have H2_ := (Option.bind_some _ _).symm.trans H; rw [hy196]; with_reducible exact H2_) | (have H2_ := (Option.bind_some _ _).symm.trans H; with_reducible exact H2_) | with_reducible exact H | (rw [hy196]; exact H) | exact H
      have Ny196 := Aside0.mk hy196
      clear hy196
      by_cases c44 : y196.length + ((rd_T37 l0 0).f7).length < 140737488355328
      case neg => rw [if_neg c44] at H; exact absurd H (by simp)
      rw [if_pos c44] at H
      have LMc44 := Aside0.mk c44
      clear c44
      obtain ⟨y199, hy199⟩ : ∃ y_ : List Int, y_ = (y196 ++ ((rd_T37 l0 0).f7)) := ⟨_, rfl⟩
      replace H : ((spec_l9Two.f (wrap64 ((y199.length : Int) + 2))).bind fun t202 => ((some (cpy y199 t202 : List Int)).bind fun y205 => ((spec_l9Sum.f k1 y205).bind fun t208 => ((spec_l9Two.f t208).bind fun t209 => (if y205.length + t209.length < 140737488355328 then (some (y205 ++ t209)) else (none)))))) = some r := by first | (rw [hy199]; with_reducible exact H) | (have H2_ := (Option.bind_some _ _).symm.trans H; rw [hy199]; with_reducible exact H2_) | (have H2_ := (Option.bind_some _ _).symm.trans H; with_reducible exact H2_) | with_reducible exact H | (rw [hy199]; exact H) | exact H
      have Ny199 := Aside0.mk hy199
      clear hy199
      replace H := Option.bind_eq_some_iff.mp H
      obtain ⟨t202, A450, H⟩ := H
      (try dsimp only at H)
      have A45 := Aside0.mk A450
      clear A450
      obtain ⟨y205, hy205⟩ : ∃ y_ : List Int, y_ = (cpy y199 t202) := ⟨_, rfl⟩
      replace H : ((spec_l9Sum.f k1 y205).bind fun t208 => ((spec_l9Two.f t208).bind fun t209 => (if y205.length + t209.length < 140737488355328 then (some (y205 ++ t209)) else (none)))) = some r := by first | (rw [hy205]; with_reducible exact H) | (have H2_ := (Option.bind_some _ _).symm.trans H; rw [hy205]; with_reducible exact H2_) | (have H2_ := (Option.bind_some _ _).symm.trans H; with_reducible exact H2_) | with_reducible exact H | (rw [hy205]; exact H) | exact H
      have Ny205 := Aside0.mk hy205
      clear hy205
      replace H := Option.bind_eq_some_iff.mp H
      obtain ⟨t208, A460, H⟩ := H
      (try dsimp only at H)
      have A46 := Aside0.mk A460
      clear A460
      replace H := Option.bind_eq_some_iff.mp H
      obtain ⟨t209, A470, H⟩ := H
      (try dsimp only at H)
      have A47 := Aside0.mk A470
      clear A470
      by_cases c48 : y205.length + t209.length < 140737488355328
      case neg => rw [if_neg c48] at H; exact absurd H (by simp)
      rw [if_pos c48] at H
      have LMc48 := Aside0.mk c48
      clear c48
      obtain ⟨y212, hy212⟩ : ∃ y_ : List Int, y_ = (y205 ++ t209) := ⟨_, rfl⟩
      replace H : (some y212) = some r := by first | (rw [hy212]; with_reducible exact H) | (have H2_ := (Option.bind_some _ _).symm.trans H; rw [hy212]; with_reducible exact H2_) | (have H2_ := (Option.bind_some _ _).symm.trans H; with_reducible exact H2_) | with_reducible exact H | (rw [hy212]; exact H) | exact H
      have Ny212 := Aside0.mk hy212
      clear hy212
      obtain rfl := Option.some.inj H
      have p170 : 0 ≤ (0 : Int) := (by omega)
      have q170 : 0 < (l0.length : Int) := od_
      obtain ⟨ad170, A170_3, c170_3, A170_7, c170_7, e170, hx170_0, hx170_1, hx170_2, hx170_3, hx170_4, hx170_5, hx170_6, hx170_7, hl170_3, hi170_3, hl170_7, hi170_7⟩ := at_T37 HR0.out 0 p170 q170
      obtain rfl : ad140 = ad170 := (by injection e170)
      have qi170 : (0 < l0.length) = True := eq_true (by omega)
      (try simp only [Int.toNat_zero, Nat.zero_mul, Addr.add_zero'] at hx170_0 hx170_1 hx170_2 hx170_3 hx170_4 hx170_5 hx170_6 hx170_7)
      replace hx170_0 := ck_ HB.out hx170_0
      replace hx170_1 := ck_ HB.out hx170_1
      replace hx170_2 := ck_ HB.out hx170_2
      replace hx170_3 := ck_ HB.out hx170_3
      replace hx170_4 := ck_ HB.out hx170_4
      replace hx170_5 := ck_ HB.out hx170_5
      replace hx170_6 := ck_ HB.out hx170_6
      replace hx170_7 := ck_ HB.out hx170_7
      have HR170_3 := Aside0.mk hi170_3
      have HC170_3 := Aside0.mk hl170_3
      clear hi170_3 hl170_3
      have HR170_7 := Aside0.mk hi170_7
      have HC170_7 := Aside0.mk hl170_7
      clear hi170_7 hl170_7
      replace p170 := eq_true p170
      replace q170 := eq_true q170
      (try clear hx163_0 hx163_1 hx163_2 hx163_3 hx163_4 hx163_5 hx163_6 hx163_7)
      try go_wp2
      replace HO_3 := Aside0.mk (Kd.R_drew HO_3.out)
      replace HB := Aside0.mk (below_drew1 HB.out)
      have p179 : 0 ≤ (0 : Int) := (by omega)
      have q179 : 0 < (l0.length : Int) := od_
      obtain ⟨ad179, A179_3, c179_3, A179_7, c179_7, e179, hx179_0, hx179_1, hx179_2, hx179_3, hx179_4, hx179_5, hx179_6, hx179_7, hl179_3, hi179_3, hl179_7, hi179_7⟩ := at_T37 HR0.out 0 p179 q179
      have hw179_7 := hx179_7
      (try simp only [Int.toNat_zero, Nat.zero_mul, Addr.add_zero'] at hw179_7)
      have hw179_6 := hx179_6
      (try simp only [Int.toNat_zero, Nat.zero_mul, Addr.add_zero'] at hw179_6)
      have hw179_5 := hx179_5
      (try simp only [Int.toNat_zero, Nat.zero_mul, Addr.add_zero'] at hw179_5)
      have hw179_4 := hx179_4
      (try simp only [Int.toNat_zero, Nat.zero_mul, Addr.add_zero'] at hw179_4)
      have hw179_3 := hx179_3
      (try simp only [Int.toNat_zero, Nat.zero_mul, Addr.add_zero'] at hw179_3)
      have hw179_2 := hx179_2
      (try simp only [Int.toNat_zero, Nat.zero_mul, Addr.add_zero'] at hw179_2)
      have hw179_1 := hx179_1
      (try simp only [Int.toNat_zero, Nat.zero_mul, Addr.add_zero'] at hw179_1)
      have hw179_0 := hx179_0
      (try simp only [Int.toNat_zero, Nat.zero_mul, Addr.add_zero'] at hw179_0)
      obtain rfl : ad140 = ad179 := (by injection e179)
      have qi179 : (0 < l0.length) = True := eq_true (by omega)
      (try simp only [Int.toNat_zero, Nat.zero_mul, Addr.add_zero'] at hx179_0 hx179_1 hx179_2 hx179_3 hx179_4 hx179_5 hx179_6 hx179_7)
      replace hx179_0 := ck_ HB.out hx179_0
      replace hx179_1 := ck_ HB.out hx179_1
      replace hx179_2 := ck_ HB.out hx179_2
      replace hx179_3 := ck_ HB.out hx179_3
      replace hx179_4 := ck_ HB.out hx179_4
      replace hx179_5 := ck_ HB.out hx179_5
      replace hx179_6 := ck_ HB.out hx179_6
      replace hx179_7 := ck_ HB.out hx179_7
      have HR179_3 := Aside0.mk hi179_3
      have HC179_3 := Aside0.mk hl179_3
      clear hi179_3 hl179_3
      have HR179_7 := Aside0.mk hi179_7
      have HC179_7 := Aside0.mk hl179_7
      clear hi179_7 hl179_7
      replace p179 := eq_true p179
      replace q179 := eq_true q179
      refine start_ (n := 20) (S := fun w' => w'.cell? ad140 = some (.int .i64 ((rd_T37 l0 0).f0)) ∧ w'.cell? ⟨ad140.block, ad140.off + 1, none⟩ = some (.string ((rd_T37 l0 0).f1)) ∧ w'.cell? ⟨ad140.block, ad140.off + 2, none⟩ = some (.string ((rd_T37 l0 0).f2)) ∧ w'.cell? ⟨ad140.block, ad140.off + 3, none⟩ = some (.slice A179_3 ((rd_T37 l0 0).f3).length c179_3) ∧ w'.cell? ⟨ad140.block, ad140.off + 4, none⟩ = some (.int .i64 ((rd_T37 l0 0).f4)) ∧ w'.cell? ⟨ad140.block, ad140.off + 5, none⟩ = some (.int .i64 ((rd_T37 l0 0).f5)) ∧ w'.cell? ⟨ad140.block, ad140.off + 6, none⟩ = some (.int .i64 ((rd_T37 l0 0).f6)) ∧ w'.cell? ⟨ad140.block, ad140.off + 7, none⟩ = some (.slice A179_7 ((rd_T37 l0 0).f7).length c179_7)) (ds := []) #[false, false, false, false, false, false, false, false, false, false, false, false, false, false, false, false, false, false, false, false] (by kernel_rfl) rfl rfl ⟨(ck_ HB.out hw179_0), (ck_ HB.out hw179_1), (ck_ HB.out hw179_2), (ck_ HB.out hw179_3), (ck_ HB.out hw179_4), (ck_ HB.out hw179_5), (ck_ HB.out hw179_6), (ck_ HB.out hw179_7)⟩ (fun hHeld => ?_); refine with_tabW spec_l9Pack.tab8 spec_l9Pack.bits8 (fun HT_ HW_ => ?_)
      generalize wr.drew = w49 at HO_3 HB HR179_3 HR179_7 hx179_0 hx179_1 hx179_2 hx179_3 hx179_4 hx179_5 hx179_6 hx179_7 hHeld ⊢
      refine pure_ (i := 0) (N := some 66) (v := ?_) (a' := ?_) #[true, false, false, false, false, false, false, false, false, false, false, false, false, false, false, false, false, false, false, false] rfl rfl (any_of HT_.out (by kernel_rfl)) (fun _ _ _ h => h) (Or.inl ⟨by rfl, ?_⟩) ?_ ?_; rotate_left
      · intro w'; go_simp; all_goals (first | with_reducible rfl | (simp [Instr.field, go_sem]; rfl))
      rotate_left
      · simp only [Act.put, List.setIfInBounds_toArray, List.set_cons_zero, List.set_cons_succ, i64_w, i32_w]; rfl
      refine pure_ (i := 1) (N := some 67) (v := ?_) (a' := ?_) #[true, true, false, false, false, false, false, false, false, false, false, false, false, false, false, false, false, false, false, false] rfl rfl (any_of HT_.out (by kernel_rfl)) (fun _ _ _ h => h) (Or.inl ⟨by rfl, ?_⟩) ?_ ?_; rotate_left
      · intro w'; go_simp; all_goals (first | with_reducible rfl | (simp [Instr.field, go_sem]; rfl))
      rotate_left
      · simp only [Act.put, List.setIfInBounds_toArray, List.set_cons_zero, List.set_cons_succ, i64_w, i32_w]; rfl
      refine pure_ (i := 2) (N := some 68) (v := ?_) (a' := ?_) #[true, true, true, false, false, false, false, false, false, false, false, false, false, false, false, false, false, false, false, false] rfl rfl (any_of HT_.out (by kernel_rfl)) (fun _ _ _ h => h) (Or.inl ⟨by rfl, ?_⟩) ?_ ?_; rotate_left
      · intro w'; go_simp; all_goals (first | with_reducible rfl | (simp [Instr.field, go_sem]; rfl))
      rotate_left
      · simp only [Act.put, List.setIfInBounds_toArray, List.set_cons_zero, List.set_cons_succ, i64_w, i32_w]; rfl
      refine pure_ (i := 3) (N := some 69) (v := ?_) (a' := ?_) #[true, true, true, true, false, false, false, false, false, false, false, false, false, false, false, false, false, false, false, false] rfl rfl (any_of HT_.out (by kernel_rfl)) (fun _ _ _ h => h) (Or.inl ⟨by rfl, ?_⟩) ?_ ?_; rotate_left
      · intro w'; go_simp; all_goals (first | with_reducible rfl | (simp [Instr.field, go_sem]; rfl))
      rotate_left
      · simp only [Act.put, List.setIfInBounds_toArray, List.set_cons_zero, List.set_cons_succ, i64_w, i32_w]; rfl
      refine pure_ (i := 6) (N := some 72) (v := ?_) (a' := ?_) #[true, true, true, true, false, false, true, false, false, false, false, false, false, false, false, false, false, false, false, false] rfl rfl (any_of HT_.out (by kernel_rfl)) (fun _ _ _ h => h) (Or.inl ⟨by rfl, ?_⟩) ?_ ?_; rotate_left
      · intro w'; go_simp; all_goals (first | with_reducible rfl | (simp [Instr.field, go_sem]; rfl))
      rotate_left
      · simp only [Act.put, List.setIfInBounds_toArray, List.set_cons_zero, List.set_cons_succ, i64_w, i32_w]; rfl
      refine pure_ (i := 7) (N := some 73) (v := ?_) (a' := ?_) #[true, true, true, true, false, false, true, true, false, false, false, false, false, false, false, false, false, false, false, false] rfl rfl (any_of HT_.out (by kernel_rfl)) (fun _ _ _ h => h) (Or.inl ⟨by rfl, ?_⟩) ?_ ?_; rotate_left
      · intro w'; go_simp; all_goals (first | with_reducible rfl | (simp [Instr.field, go_sem]; rfl))
      rotate_left
      · simp only [Act.put, List.setIfInBounds_toArray, List.set_cons_zero, List.set_cons_succ, i64_w, i32_w]; rfl
      refine pure_ (i := 8) (N := some 74) (v := ?_) (a' := ?_) #[true, true, true, true, false, false, true, true, true, false, false, false, false, false, false, false, false, false, false, false] rfl rfl (any_of HT_.out (by kernel_rfl)) (fun _ _ _ h => h) (Or.inl ⟨by rfl, ?_⟩) ?_ ?_; rotate_left
      · intro w'; go_simp; all_goals (first | with_reducible rfl | (simp [Instr.field, go_sem]; rfl))
      rotate_left
      · simp only [Act.put, List.setIfInBounds_toArray, List.set_cons_zero, List.set_cons_succ, i64_w, i32_w]; rfl
      refine pure_ (i := 13) (N := some 79) (v := ?_) (a' := ?_) #[true, true, true, true, false, false, true, true, true, false, false, false, false, true, false, false, false, false, false, false] rfl rfl (any_of HT_.out (by kernel_rfl)) (fun _ _ _ h => h) (Or.inl ⟨by rfl, ?_⟩) ?_ ?_; rotate_left
      · intro w'; go_simp; all_goals (first | with_reducible rfl | (simp [Instr.field, go_sem]; rfl))
      rotate_left
      · simp only [Act.put, List.setIfInBounds_toArray, List.set_cons_zero, List.set_cons_succ, i64_w, i32_w]; rfl
      refine pure_ (i := 14) (N := some 80) (v := ?_) (a' := ?_) #[true, true, true, true, false, false, true, true, true, false, false, false, false, true, true, false, false, false, false, false] rfl rfl (any_of HT_.out (by kernel_rfl)) (fun _ _ _ h => h) (Or.inl ⟨by rfl, ?_⟩) ?_ ?_; rotate_left
      · intro w'; go_simp; all_goals (first | with_reducible rfl | (simp [Instr.field, go_sem]; rfl))
      rotate_left
      · simp only [Act.put, List.setIfInBounds_toArray, List.set_cons_zero, List.set_cons_succ, i64_w, i32_w]; rfl
      refine pure_ (i := 15) (N := some 81) (v := ?_) (a' := ?_) #[true, true, true, true, false, false, true, true, true, false, false, false, false, true, true, true, false, false, false, false] rfl rfl (any_of HT_.out (by kernel_rfl)) (fun _ _ _ h => h) (Or.inl ⟨by rfl, ?_⟩) ?_ ?_; rotate_left
      · intro w'; go_simp; all_goals (first | with_reducible rfl | (simp [Instr.field, go_sem]; rfl))
      rotate_left
      · simp only [Act.put, List.setIfInBounds_toArray, List.set_cons_zero, List.set_cons_succ, i64_w, i32_w]; rfl
      refine take_ (i := 4) (N := some 70) (v := ?_) (a' := ?_) #[true, true, true, true, true, false, true, true, true, false, false, false, false, true, true, true, false, false, false, false] rfl rfl (take_ofW HT_.out HW_.out (by kernel_rfl)) (fun _ _ _ h => h) (Or.inl ⟨by rfl, ?_⟩) hHeld ?_ ?_; rotate_left
      · rintro w' ⟨s0, s1, s2, s3, s4, s5, s6, s7⟩; go_simp; all_goals (first | with_reducible rfl | (simp [Instr.field, go_sem]; rfl))
      rotate_left
      · simp only [Act.put, List.setIfInBounds_toArray, List.set_cons_zero, List.set_cons_succ, i64_w, i32_w]; rfl
      refine pure_ (i := 5) (N := some 71) (v := ?_) (a' := ?_) #[true, true, true, true, true, true, true, true, true, false, false, false, false, true, true, true, false, false, false, false] rfl rfl (any_of HT_.out (by kernel_rfl)) (fun _ _ _ h => h) (Or.inl ⟨by rfl, ?_⟩) ?_ ?_; rotate_left
      · intro w'; go_simp; all_goals (first | with_reducible rfl | (simp [Instr.field, go_sem]; rfl))
      rotate_left
      · simp only [Act.put, List.setIfInBounds_toArray, List.set_cons_zero, List.set_cons_succ, i64_w, i32_w]; rfl
      refine take_ (i := 9) (N := some 75) (v := ?_) (a' := ?_) #[true, true, true, true, true, true, true, true, true, true, false, false, false, true, true, true, false, false, false, false] rfl rfl (take_ofW HT_.out HW_.out (by kernel_rfl)) (fun _ _ _ h => h) (Or.inl ⟨by rfl, ?_⟩) hHeld ?_ ?_; rotate_left
      · rintro w' ⟨s0, s1, s2, s3, s4, s5, s6, s7⟩; go_simp; all_goals (first | with_reducible rfl | (simp [Instr.field, go_sem]; rfl))
      rotate_left
      · simp only [Act.put, List.setIfInBounds_toArray, List.set_cons_zero, List.set_cons_succ, i64_w, i32_w]; rfl
      refine pure_ (i := 10) (N := some 76) (v := ?_) (a' := ?_) #[true, true, true, true, true, true, true, true, true, true, true, false, false, true, true, true, false, false, false, false] rfl rfl (any_of HT_.out (by kernel_rfl)) (fun _ _ _ h => h) (Or.inl ⟨by rfl, ?_⟩) ?_ ?_; rotate_left
      · intro w'; go_simp; all_goals (first | with_reducible rfl | (simp [Instr.field, go_sem]; rfl))
      rotate_left
      · simp only [Act.put, List.setIfInBounds_toArray, List.set_cons_zero, List.set_cons_succ, i64_w, i32_w]; rfl
      refine take_ (i := 16) (N := some 82) (v := ?_) (a' := ?_) #[true, true, true, true, true, true, true, true, true, true, true, false, false, true, true, true, true, false, false, false] rfl rfl (take_ofW HT_.out HW_.out (by kernel_rfl)) (fun _ _ _ h => h) (Or.inl ⟨by rfl, ?_⟩) hHeld ?_ ?_; rotate_left
      · rintro w' ⟨s0, s1, s2, s3, s4, s5, s6, s7⟩; go_simp; all_goals (first | with_reducible rfl | (simp [Instr.field, go_sem]; rfl))
      rotate_left
      · simp only [Act.put, List.setIfInBounds_toArray, List.set_cons_zero, List.set_cons_succ, i64_w, i32_w]; rfl
      refine one_ (i := 11) (N := some 77) #[true, true, true, true, true, true, true, true, true, true, true, true, false, true, true, true, true, false, false, false] rfl rfl (one_of HT_.out (by kernel_rfl)) (by decide) (fun K hK => ?_)
      refine Kd.R_lit_step (Kd.int .u8) _ 5 ?hg (N := 77) ?hd (xs := ([((rd_T37 l0 0).f4) % 256, ((rd_T37 l0 0).f5) % 256] : List Int)) (inner := [.int .u8 (((rd_T37 l0 0).f4) % 256), .int .u8 (((rd_T37 l0 0).f5) % 256)]) (ok := fun _ => True) (okp := fun _ => True) ?hr ?hp (fun _ hk => hk) trivial (Below.refl _ _) (Nat.le_refl _) (by simp) ?_; (case hd => rfl); (case hg => rfl); (case hr => first | (go_simp; done) | (go_simp; rfl)); (case hp => exact (Reps.one (show Kd.M (Kd.int .u8) _ _ _ (((rd_T37 l0 0).f4) % 256) [.int .u8 (((rd_T37 l0 0).f4) % 256)] from rfl) (Reps.one (show Kd.M (Kd.int .u8) _ _ _ (((rd_T37 l0 0).f5) % 256) [.int .u8 (((rd_T37 l0 0).f5) % 256)] from rfl) (Reps.none _ _))))
      intro v181 w50 ho51 hb hg_ hnew_
      clear hg_ hnew_
      (first | rw [← Ny180.out] at ho51 | (simp only [Int.reduceToNat] at ho51; rw [← Ny180.out] at ho51))
      have n0_ := Aside0.mk (Kd.R_elder' (R_up HO_3.out) (Kd.R_base ho51) hb)
      have n1_ := Aside0.mk (Kd.R_lower (Kd.R_new' ho51 (Kd.R_lt (R_up HO_3.out))) (below_size (HB_up HB.out)))
      have n2_ := Aside0.mk (below_step (HB_up HB.out) hb)
      clear HO_3
      clear HB
      have HO_3 := n0_
      have HO182 := n1_
      have HB := n2_
      clear n0_ n1_ n2_
      clear hb ho51
      obtain ⟨Ao53, co53, eo53⟩ := Kd.R_slice HO182.out
      (first | subst eo53 | (injection eo53 with f1_ f2_ f3_; have f4_ := f1_.symm; have f5_ := f3_.symm; clear f1_ f2_ f3_; subst f4_; subst f5_))
      refine hK.out _ _ ⟨(ck_ HB.out hw179_0), (ck_ HB.out hw179_1), (ck_ HB.out hw179_2), (ck_ HB.out hw179_3), (ck_ HB.out hw179_4), (ck_ HB.out hw179_5), (ck_ HB.out hw179_6), (ck_ HB.out hw179_7)⟩ (fun hHeld => ?_)
      clear hK K
      refine norm_ (a' := ?_) ?_ ?_
      rotate_left
      · show Act.put _ (some 77) _ = _
        simp only [Act.put, List.setIfInBounds_toArray, List.set_cons_zero, List.set_cons_succ, i64_w, i32_w]
        rfl
      refine one_ (i := 12) (N := some 78) #[true, true, true, true, true, true, true, true, true, true, true, true, true, true, true, true, true, false, false, false] rfl rfl (one_of HT_.out (by kernel_rfl)) (by decide) (fun K hK => ?_)
      refine Kd.R_append_rows_step (Kd.int .u8) (w0 := w) w.heap.size (by rfl) (.tmp 66) (.tmp 77) 24 5 (.int .u8 0) 1 rfl Try.underlying24 info5 rfl (by decide) (by omega) u3 x3_1 y180 _ _ _ (fun k_ => some k_ ≠ (.slice Ao53 y180.length co53 : Value).ownBlock) (fun _ => False) rfl rfl ?aO ?aR (fun _ _ h => h) (fun _ h => h.elim) ?aF ?aB ?aS ?aL ?_
      (case aR => exact C_up (Kd.R_reads' HO182.out).2.2)
      (case aB => exact (HB_up HB.out))
      (case aF => exact (fun k_ hk => Kd.fresh' (Kd.R_lt (R_up HO182.out)) k_ hk))
      (case aO => exact (by (with_reducible repeat (first | apply Kd.R_alloc | apply Kd.R_drewN | apply Kd.R_drew)); exact Kd.R_mono HO_3.out (fun _ hk => hk.2)))
      (case aS => exact (below_size (HB_up HB.out)))
      (case aL => have := LMc39.out; omega)
      intro v184 w52 ho hb hg hat
      rw [← Ny183.out] at ho
      have n0_ := Aside0.mk (Kd.R_after (ok := (fun _ => True)) (R_up HO182.out) hg hat)
      have n1_ := Aside0.mk (hb)
      have n2_ := Aside0.mk (ho)
      clear HO182
      clear HB
      clear HO_3
      have HO182 := n0_
      have HB := n1_
      have HO185 := n2_
      clear n0_ n1_ n2_
      clear ho hb hg hat
      refine hK.out _ _ ⟨(ck_ HB.out hw179_0), (ck_ HB.out hw179_1), (ck_ HB.out hw179_2), (ck_ HB.out hw179_3), (ck_ HB.out hw179_4), (ck_ HB.out hw179_5), (ck_ HB.out hw179_6), (ck_ HB.out hw179_7)⟩ (fun hHeld => ?_)
      clear hK K
      refine norm_ (a' := ?_) ?_ ?_
      rotate_left
      · show Act.put _ (some 78) _ = _
        simp only [Act.put, List.setIfInBounds_toArray, List.set_cons_zero, List.set_cons_succ, i64_w, i32_w]
        rfl
      refine one_ (i := 17) (N := some 83) #[true, true, true, true, true, true, true, true, true, true, true, true, true, true, true, true, true, true, false, false] rfl rfl (one_of HT_.out (by kernel_rfl)) (by decide) (fun K hK => ?_)
      refine goes_ Try.func73 (by kernel_rfl) rfl #[.int .i64 ((rd_T37 l0 0).f6)] (by rfl) rfl rfl (by (try simp only [List.map_toArray, List.map_cons, List.map_nil]); first | done | rfl | (simp only [List.length_drop, List.length_take]; rfl)) ?_
      with_reducible refine (spec_l9Two.calls ((rd_T37 l0 0).f6) t186 _ A40.out).mono ?_
      rintro e w54 ⟨v187, rfl, ho0, hb⟩
      refine ⟨_, rfl, ?_⟩
      have n0_ := Aside0.mk (Kd.R_elder' (R_up HO182.out) (Kd.R_base ho0) hb)
      have n1_ := Aside0.mk (Kd.R_elder' (R_up HO185.out) (Kd.R_base ho0) hb)
      have n2_ := Aside0.mk (Kd.R_lower (Kd.R_new' (Kd.R_new' ho0 (Kd.R_lt (R_up HO182.out))) (Kd.R_lt (R_up HO185.out))) (below_size (HB_up HB.out)))
      have n3_ := Aside0.mk (below_step (HB_up HB.out) hb)
      clear HO182
      clear HO185
      clear HB
      have HO182 := n0_
      have HO185 := n1_
      have HO188 := n2_
      have HB := n3_
      clear n0_ n1_ n2_ n3_
      (try clear hb)
      (try clear hb2)
      (try clear hk)
      (try clear hi)
      (try clear ho0)
      obtain ⟨Ao56, co56, eo56⟩ := Kd.R_slice HO188.out
      (first | subst eo56 | (injection eo56 with f1_ f2_ f3_; have f4_ := f1_.symm; have f5_ := f3_.symm; clear f1_ f2_ f3_; subst f4_; subst f5_))
      refine hK.out _ _ ⟨(ck_ HB.out hw179_0), (ck_ HB.out hw179_1), (ck_ HB.out hw179_2), (ck_ HB.out hw179_3), (ck_ HB.out hw179_4), (ck_ HB.out hw179_5), (ck_ HB.out hw179_6), (ck_ HB.out hw179_7)⟩ (fun hHeld => ?_)
      clear hK K
      refine norm_ (a' := ?_) ?_ ?_
      rotate_left
      · show Act.put _ (some 83) _ = _
        simp only [Act.put, List.setIfInBounds_toArray, List.set_cons_zero, List.set_cons_succ, i64_w, i32_w]
        rfl
      refine one_ (i := 18) (N := some 84) #[true, true, true, true, true, true, true, true, true, true, true, true, true, true, true, true, true, true, true, false] rfl rfl (one_of HT_.out (by kernel_rfl)) (by decide) (fun K hK => ?_)
      refine Kd.R_append_rows_step (Kd.int .u8) (w0 := w) w.heap.size (by rfl) (.tmp 78) (.tmp 83) 24 5 (.int .u8 0) 1 rfl Try.underlying24 info5 rfl (by decide) (by omega) v184 y183 t186 _ _ _ (fun k_ => some k_ ≠ (.slice Ao53 y180.length co53 : Value).ownBlock ∧ some k_ ≠ (.slice Ao56 t186.length co56 : Value).ownBlock) (fun _ => False) rfl rfl ?aO ?aR (fun _ _ h => h) (fun _ h => h.elim) ?aF ?aB ?aS ?aL ?_
      (case aR => exact C_up (Kd.R_reads' HO188.out).2.2)
      (case aB => exact (HB_up HB.out))
      (case aF => exact (fun k_ hk => ⟨Kd.fresh' (Kd.R_lt (R_up HO182.out)) k_ hk, Kd.fresh' (Kd.R_lt (R_up HO188.out)) k_ hk⟩))
      (case aO => exact (R_up HO185.out))
      (case aS => exact (below_size (HB_up HB.out)))
      (case aL => have := LMc41.out; omega)
      intro v190 w55 ho hb hg hat
      rw [← Ny189.out] at ho
      have n0_ := Aside0.mk (Kd.R_after (ok := (fun k_ => some k_ ≠ (.slice Ao56 t186.length co56 : Value).ownBlock)) (by (with_reducible repeat (first | apply Kd.R_alloc | apply Kd.R_drewN | apply Kd.R_drew)); exact Kd.R_mono HO182.out (fun _ hk => ⟨hk.2, hk.1.2⟩)) hg hat)
      have n1_ := Aside0.mk (Kd.R_after (ok := (fun k_ => some k_ ≠ (.slice Ao53 y180.length co53 : Value).ownBlock)) (by (with_reducible repeat (first | apply Kd.R_alloc | apply Kd.R_drewN | apply Kd.R_drew)); exact Kd.R_mono HO188.out (fun _ hk => ⟨hk.1.2, hk.2⟩)) hg hat)
      have n2_ := Aside0.mk (hb)
      have n3_ := Aside0.mk (ho)
      clear HO182
      clear HO188
      clear HB
      clear HO185
      have HO182 := n0_
      have HO188 := n1_
      have HB := n2_
      have HO191 := n3_
      clear n0_ n1_ n2_ n3_
      clear ho hb hg hat
      refine hK.out _ _ ⟨(ck_ HB.out hw179_0), (ck_ HB.out hw179_1), (ck_ HB.out hw179_2), (ck_ HB.out hw179_3), (ck_ HB.out hw179_4), (ck_ HB.out hw179_5), (ck_ HB.out hw179_6), (ck_ HB.out hw179_7)⟩ (fun hHeld => ?_)
      clear hK K
      refine norm_ (a' := ?_) ?_ ?_
      rotate_left
      · show Act.put _ (some 84) _ = _
        simp only [Act.put, List.setIfInBounds_toArray, List.set_cons_zero, List.set_cons_succ, i64_w, i32_w]
        rfl
      refine pure_ (i := 19) (N := some 3) (v := ?_) (a' := ?_) #[true, true, true, true, true, true, true, true, true, true, true, true, true, true, true, true, true, true, true, true] rfl rfl (any_of HT_.out (by kernel_rfl)) (fun _ _ _ h => h) (Or.inl ⟨by rfl, ?_⟩) ?_ ?_; rotate_left
      · intro w'; go_simp; all_goals (first | with_reducible rfl | (simp [Instr.field, go_sem]; rfl))
      rotate_left
      · simp only [Act.put, List.setIfInBounds_toArray, List.set_cons_zero, List.set_cons_succ, i64_w, i32_w]; rfl
      refine done_ (done_of HT_.out (by kernel_rfl)) ?_
      try go_wp2
      replace HO182 := Aside0.mk (Kd.R_drew HO182.out)
      replace HO188 := Aside0.mk (Kd.R_drew HO188.out)
      replace HO191 := Aside0.mk (Kd.R_drew HO191.out)
      replace HB := Aside0.mk (below_drew1 HB.out)
      have p192 : 0 ≤ (0 : Int) := (by omega)
      have q192 : 0 < (l0.length : Int) := od_
      obtain ⟨ad192, A192_3, c192_3, A192_7, c192_7, e192, hx192_0, hx192_1, hx192_2, hx192_3, hx192_4, hx192_5, hx192_6, hx192_7, hl192_3, hi192_3, hl192_7, hi192_7⟩ := at_T37 HR0.out 0 p192 q192
      have hw192_7 := hx192_7
      (try simp only [Int.toNat_zero, Nat.zero_mul, Addr.add_zero'] at hw192_7)
      have hw192_6 := hx192_6
      (try simp only [Int.toNat_zero, Nat.zero_mul, Addr.add_zero'] at hw192_6)
      have hw192_5 := hx192_5
      (try simp only [Int.toNat_zero, Nat.zero_mul, Addr.add_zero'] at hw192_5)
      have hw192_4 := hx192_4
      (try simp only [Int.toNat_zero, Nat.zero_mul, Addr.add_zero'] at hw192_4)
      have hw192_3 := hx192_3
      (try simp only [Int.toNat_zero, Nat.zero_mul, Addr.add_zero'] at hw192_3)
      have hw192_2 := hx192_2
      (try simp only [Int.toNat_zero, Nat.zero_mul, Addr.add_zero'] at hw192_2)
      have hw192_1 := hx192_1
      (try simp only [Int.toNat_zero, Nat.zero_mul, Addr.add_zero'] at hw192_1)
      have hw192_0 := hx192_0
      (try simp only [Int.toNat_zero, Nat.zero_mul, Addr.add_zero'] at hw192_0)
      obtain rfl : ad140 = ad192 := (by injection e192)
      have qi192 : (0 < l0.length) = True := eq_true (by omega)
      (try simp only [Int.toNat_zero, Nat.zero_mul, Addr.add_zero'] at hx192_0 hx192_1 hx192_2 hx192_3 hx192_4 hx192_5 hx192_6 hx192_7)
      replace hx192_0 := ck_ HB.out hx192_0
      replace hx192_1 := ck_ HB.out hx192_1
      replace hx192_2 := ck_ HB.out hx192_2
      replace hx192_3 := ck_ HB.out hx192_3
      replace hx192_4 := ck_ HB.out hx192_4
      replace hx192_5 := ck_ HB.out hx192_5
      replace hx192_6 := ck_ HB.out hx192_6
      replace hx192_7 := ck_ HB.out hx192_7
      have HR192_3 := Aside0.mk hi192_3
      have HC192_3 := Aside0.mk hl192_3
      clear hi192_3 hl192_3
      have HR192_7 := Aside0.mk hi192_7
      have HC192_7 := Aside0.mk hl192_7
      clear hi192_7 hl192_7
      replace p192 := eq_true p192
      replace q192 := eq_true q192
      refine start_ (n := 14) (S := fun w' => w'.cell? ad140 = some (.int .i64 ((rd_T37 l0 0).f0)) ∧ w'.cell? ⟨ad140.block, ad140.off + 1, none⟩ = some (.string ((rd_T37 l0 0).f1)) ∧ w'.cell? ⟨ad140.block, ad140.off + 2, none⟩ = some (.string ((rd_T37 l0 0).f2)) ∧ w'.cell? ⟨ad140.block, ad140.off + 3, none⟩ = some (.slice A192_3 ((rd_T37 l0 0).f3).length c192_3) ∧ w'.cell? ⟨ad140.block, ad140.off + 4, none⟩ = some (.int .i64 ((rd_T37 l0 0).f4)) ∧ w'.cell? ⟨ad140.block, ad140.off + 5, none⟩ = some (.int .i64 ((rd_T37 l0 0).f5)) ∧ w'.cell? ⟨ad140.block, ad140.off + 6, none⟩ = some (.int .i64 ((rd_T37 l0 0).f6)) ∧ w'.cell? ⟨ad140.block, ad140.off + 7, none⟩ = some (.slice A192_7 ((rd_T37 l0 0).f7).length c192_7)) (ds := []) #[false, false, false, false, false, false, false, false, false, false, false, false, false, false] (by kernel_rfl) rfl rfl ⟨(ck_ HB.out hw192_0), (ck_ HB.out hw192_1), (ck_ HB.out hw192_2), (ck_ HB.out hw192_3), (ck_ HB.out hw192_4), (ck_ HB.out hw192_5), (ck_ HB.out hw192_6), (ck_ HB.out hw192_7)⟩ (fun hHeld => ?_); refine with_tabW spec_l9Pack.tab9 spec_l9Pack.bits9 (fun HT_ HW_ => ?_)
      generalize w55.drew = w57 at HO182 HO188 HO191 HB HR192_3 HR192_7 hx192_0 hx192_1 hx192_2 hx192_3 hx192_4 hx192_5 hx192_6 hx192_7 hHeld ⊢
      refine pure_ (i := 0) (N := some 85) (v := ?_) (a' := ?_) #[true, false, false, false, false, false, false, false, false, false, false, false, false, false] rfl rfl (any_of HT_.out (by kernel_rfl)) (fun _ _ _ h => h) (Or.inl ⟨by rfl, ?_⟩) ?_ ?_; rotate_left
      · intro w'; go_simp; all_goals (first | with_reducible rfl | (simp [Instr.field, go_sem]; rfl))
      rotate_left
      · simp only [Act.put, List.setIfInBounds_toArray, List.set_cons_zero, List.set_cons_succ, i64_w, i32_w]; rfl
      refine pure_ (i := 1) (N := some 86) (v := ?_) (a' := ?_) #[true, true, false, false, false, false, false, false, false, false, false, false, false, false] rfl rfl (any_of HT_.out (by kernel_rfl)) (fun _ _ _ h => h) (Or.inl ⟨by rfl, ?_⟩) ?_ ?_; rotate_left
      · intro w'; go_simp; all_goals (first | with_reducible rfl | (simp [Instr.field, go_sem]; rfl))
      rotate_left
      · simp only [Act.put, List.setIfInBounds_toArray, List.set_cons_zero, List.set_cons_succ, i64_w, i32_w]; rfl
      refine pure_ (i := 2) (N := some 87) (v := ?_) (a' := ?_) #[true, true, true, false, false, false, false, false, false, false, false, false, false, false] rfl rfl (any_of HT_.out (by kernel_rfl)) (fun _ _ _ h => h) (Or.inl ⟨by rfl, ?_⟩) ?_ ?_; rotate_left
      · intro w'; go_simp; all_goals (first | with_reducible rfl | (simp [Instr.field, go_sem]; rfl))
      rotate_left
      · simp only [Act.put, List.setIfInBounds_toArray, List.set_cons_zero, List.set_cons_succ, i64_w, i32_w]; rfl
      refine pure_ (i := 3) (N := some 88) (v := ?_) (a' := ?_) #[true, true, true, true, false, false, false, false, false, false, false, false, false, false] rfl rfl (any_of HT_.out (by kernel_rfl)) (fun _ _ _ h => h) (Or.inl ⟨by rfl, ?_⟩) ?_ ?_; rotate_left
      · intro w'; go_simp; all_goals (first | with_reducible rfl | (simp [Instr.field, go_sem]; rfl))
      rotate_left
      · simp only [Act.put, List.setIfInBounds_toArray, List.set_cons_zero, List.set_cons_succ, i64_w, i32_w]; rfl
      refine pure_ (i := 8) (N := some 93) (v := ?_) (a' := ?_) #[true, true, true, true, false, false, false, false, true, false, false, false, false, false] rfl rfl (any_of HT_.out (by kernel_rfl)) (fun _ _ _ h => h) (Or.inl ⟨by rfl, ?_⟩) ?_ ?_; rotate_left
      · intro w'; go_simp; all_goals (first | with_reducible rfl | (simp [Instr.field, go_sem]; rfl))
      rotate_left
      · simp only [Act.put, List.setIfInBounds_toArray, List.set_cons_zero, List.set_cons_succ, i64_w, i32_w]; rfl
      refine pure_ (i := 9) (N := some 94) (v := ?_) (a' := ?_) #[true, true, true, true, false, false, false, false, true, true, false, false, false, false] rfl rfl (any_of HT_.out (by kernel_rfl)) (fun _ _ _ h => h) (Or.inl ⟨by rfl, ?_⟩) ?_ ?_; rotate_left
      · intro w'; go_simp; all_goals (first | with_reducible rfl | (simp [Instr.field, go_sem]; rfl))
      rotate_left
      · simp only [Act.put, List.setIfInBounds_toArray, List.set_cons_zero, List.set_cons_succ, i64_w, i32_w]; rfl
      refine pure_ (i := 10) (N := some 95) (v := ?_) (a' := ?_) #[true, true, true, true, false, false, false, false, true, true, true, false, false, false] rfl rfl (any_of HT_.out (by kernel_rfl)) (fun _ _ _ h => h) (Or.inl ⟨by rfl, ?_⟩) ?_ ?_; rotate_left
      · intro w'; go_simp; all_goals (first | with_reducible rfl | (simp [Instr.field, go_sem]; rfl))
      rotate_left
      · simp only [Act.put, List.setIfInBounds_toArray, List.set_cons_zero, List.set_cons_succ, i64_w, i32_w]; rfl
      refine take_ (i := 4) (N := some 89) (v := ?_) (a' := ?_) #[true, true, true, true, true, false, false, false, true, true, true, false, false, false] rfl rfl (take_ofW HT_.out HW_.out (by kernel_rfl)) (fun _ _ _ h => h) (Or.inl ⟨by rfl, ?_⟩) hHeld ?_ ?_; rotate_left
      · rintro w' ⟨s0, s1, s2, s3, s4, s5, s6, s7⟩; go_simp; all_goals (first | with_reducible rfl | (simp [Instr.field, go_sem]; rfl))
      rotate_left
      · simp only [Act.put, List.setIfInBounds_toArray, List.set_cons_zero, List.set_cons_succ, i64_w, i32_w]; rfl
      refine pure_ (i := 5) (N := some 90) (v := ?_) (a' := ?_) #[true, true, true, true, true, true, false, false, true, true, true, false, false, false] rfl rfl (any_of HT_.out (by kernel_rfl)) (fun _ _ _ h => h) (Or.inl ⟨by rfl, ?_⟩) ?_ ?_; rotate_left
      · intro w'; go_simp; all_goals (first | with_reducible rfl | (simp [Instr.field, go_sem]; rfl))
      rotate_left
      · simp only [Act.put, List.setIfInBounds_toArray, List.set_cons_zero, List.set_cons_succ, i64_w, i32_w]; rfl
      refine take_ (i := 11) (N := some 96) (v := ?_) (a' := ?_) #[true, true, true, true, true, true, false, false, true, true, true, true, false, false] rfl rfl (take_ofW HT_.out HW_.out (by kernel_rfl)) (fun _ _ _ h => h) (Or.inl ⟨by rfl, ?_⟩) hHeld ?_ ?_; rotate_left
      · rintro w' ⟨s0, s1, s2, s3, s4, s5, s6, s7⟩; go_simp; all_goals (first | with_reducible rfl | (simp [Instr.field, go_sem]; rfl))
      rotate_left
      · simp only [Act.put, List.setIfInBounds_toArray, List.set_cons_zero, List.set_cons_succ, i64_w, i32_w]; rfl
      refine one_ (i := 6) (N := some 91) #[true, true, true, true, true, true, true, false, true, true, true, true, false, false] rfl rfl (one_of HT_.out (by kernel_rfl)) (by decide) (fun K hK => ?_)
      refine goes_ Try.func73 (by kernel_rfl) rfl #[.int .i64 (((rd_T37 l0 0).f7).length : Int)] (by rfl) rfl rfl (by (try simp only [List.map_toArray, List.map_cons, List.map_nil]); first | done | rfl | (simp only [List.length_drop, List.length_take]; rfl)) ?_
      with_reducible refine (spec_l9Two.calls (((rd_T37 l0 0).f7).length : Int) t193 _ A42.out).mono ?_
      rintro e w58 ⟨v194, rfl, ho0, hb⟩
      refine ⟨_, rfl, ?_⟩
      have n0_ := Aside0.mk (Kd.R_elder' (R_up HO182.out) (Kd.R_base ho0) hb)
      have n1_ := Aside0.mk (Kd.R_elder' (R_up HO188.out) (Kd.R_base ho0) hb)
      have n2_ := Aside0.mk (Kd.R_elder' (R_up HO191.out) (Kd.R_base ho0) hb)
      have n3_ := Aside0.mk (Kd.R_lower (Kd.R_new' (Kd.R_new' (Kd.R_new' ho0 (Kd.R_lt (R_up HO182.out))) (Kd.R_lt (R_up HO188.out))) (Kd.R_lt (R_up HO191.out))) (below_size (HB_up HB.out)))
      have n4_ := Aside0.mk (below_step (HB_up HB.out) hb)
      clear HO182
      clear HO188
      clear HO191
      clear HB
      have HO182 := n0_
      have HO188 := n1_
      have HO191 := n2_
      have HO195 := n3_
      have HB := n4_
      clear n0_ n1_ n2_ n3_ n4_
      (try clear hb)
      (try clear hb2)
      (try clear hk)
      (try clear hi)
      (try clear ho0)
      obtain ⟨Ao60, co60, eo60⟩ := Kd.R_slice HO195.out
      (first | subst eo60 | (injection eo60 with f1_ f2_ f3_; have f4_ := f1_.symm; have f5_ := f3_.symm; clear f1_ f2_ f3_; subst f4_; subst f5_))
      refine hK.out _ _ ⟨(ck_ HB.out hw192_0), (ck_ HB.out hw192_1), (ck_ HB.out hw192_2), (ck_ HB.out hw192_3), (ck_ HB.out hw192_4), (ck_ HB.out hw192_5), (ck_ HB.out hw192_6), (ck_ HB.out hw192_7)⟩ (fun hHeld => ?_)
      clear hK K
      refine norm_ (a' := ?_) ?_ ?_
      rotate_left
      · show Act.put _ (some 91) _ = _
        simp only [Act.put, List.setIfInBounds_toArray, List.set_cons_zero, List.set_cons_succ, i64_w, i32_w]
        rfl
      refine one_ (i := 7) (N := some 92) #[true, true, true, true, true, true, true, true, true, true, true, true, false, false] rfl rfl (one_of HT_.out (by kernel_rfl)) (by decide) (fun K hK => ?_)
      refine Kd.R_append_rows_step (Kd.int .u8) (w0 := w) w.heap.size (by rfl) (.tmp 85) (.tmp 91) 24 5 (.int .u8 0) 1 rfl Try.underlying24 info5 rfl (by decide) (by omega) v190 y189 t193 _ _ _ (fun k_ => some k_ ≠ (.slice Ao53 y180.length co53 : Value).ownBlock ∧ some k_ ≠ (.slice Ao56 t186.length co56 : Value).ownBlock ∧ some k_ ≠ (.slice Ao60 t193.length co60 : Value).ownBlock) (fun _ => False) rfl rfl ?aO ?aR (fun _ _ h => h) (fun _ h => h.elim) ?aF ?aB ?aS ?aL ?_
      (case aR => exact C_up (Kd.R_reads' HO195.out).2.2)
      (case aB => exact (HB_up HB.out))
      (case aF => exact (fun k_ hk => ⟨Kd.fresh' (Kd.R_lt (R_up HO182.out)) k_ hk, Kd.fresh' (Kd.R_lt (R_up HO188.out)) k_ hk, Kd.fresh' (Kd.R_lt (R_up HO195.out)) k_ hk⟩))
      (case aO => exact (by (with_reducible repeat (first | apply Kd.R_alloc | apply Kd.R_drewN | apply Kd.R_drew)); exact Kd.R_mono HO191.out (fun _ hk => ⟨hk.1.1, ⟨hk.1.2, hk.2⟩⟩)))
      (case aS => exact (below_size (HB_up HB.out)))
      (case aL => have := LMc43.out; omega)
      intro v197 w59 ho hb hg hat
      rw [← Ny196.out] at ho
      have n0_ := Aside0.mk (Kd.R_after (ok := (fun k_ => some k_ ≠ (.slice Ao56 t186.length co56 : Value).ownBlock ∧ some k_ ≠ (.slice Ao60 t193.length co60 : Value).ownBlock)) (by (with_reducible repeat (first | apply Kd.R_alloc | apply Kd.R_drewN | apply Kd.R_drew)); exact Kd.R_mono HO182.out (fun _ hk => ⟨⟨hk.1.1, hk.2⟩, hk.1.2⟩)) hg hat)
      have n1_ := Aside0.mk (Kd.R_after (ok := (fun k_ => some k_ ≠ (.slice Ao53 y180.length co53 : Value).ownBlock ∧ some k_ ≠ (.slice Ao60 t193.length co60 : Value).ownBlock)) (by (with_reducible repeat (first | apply Kd.R_alloc | apply Kd.R_drewN | apply Kd.R_drew)); exact Kd.R_mono HO188.out (fun _ hk => ⟨⟨hk.1.1, hk.2⟩, hk.1.2⟩)) hg hat)
      have n2_ := Aside0.mk (Kd.R_after (ok := (fun k_ => some k_ ≠ (.slice Ao53 y180.length co53 : Value).ownBlock ∧ some k_ ≠ (.slice Ao56 t186.length co56 : Value).ownBlock)) (by (with_reducible repeat (first | apply Kd.R_alloc | apply Kd.R_drewN | apply Kd.R_drew)); exact Kd.R_mono HO195.out (fun _ hk => ⟨⟨hk.1.1.2, hk.1.2⟩, hk.2⟩)) hg hat)
      have n3_ := Aside0.mk (hb)
      have n4_ := Aside0.mk (ho)
      clear HO182
      clear HO188
      clear HO195
      clear HB
      clear HO191
      have HO182 := n0_
      have HO188 := n1_
      have HO195 := n2_
      have HB := n3_
      have HO198 := n4_
      clear n0_ n1_ n2_ n3_ n4_
      clear ho hb hg hat
      refine hK.out _ _ ⟨(ck_ HB.out hw192_0), (ck_ HB.out hw192_1), (ck_ HB.out hw192_2), (ck_ HB.out hw192_3), (ck_ HB.out hw192_4), (ck_ HB.out hw192_5), (ck_ HB.out hw192_6), (ck_ HB.out hw192_7)⟩ (fun hHeld => ?_)
      clear hK K
      refine norm_ (a' := ?_) ?_ ?_
      rotate_left
      · show Act.put _ (some 92) _ = _
        simp only [Act.put, List.setIfInBounds_toArray, List.set_cons_zero, List.set_cons_succ, i64_w, i32_w]
        rfl
      refine one_ (i := 12) (N := some 97) #[true, true, true, true, true, true, true, true, true, true, true, true, true, false] rfl rfl (one_of HT_.out (by kernel_rfl)) (by decide) (fun K hK => ?_)
      refine Kd.R_append_rows_step (Kd.int .u8) (w0 := w) w.heap.size (by rfl) (.tmp 92) (.tmp 96) 24 5 (.int .u8 0) 1 rfl Try.underlying24 info5 rfl (by decide) (by omega) v197 y196 ((rd_T37 l0 0).f7) _ _ _ (fun k_ => some k_ ≠ (.slice Ao53 y180.length co53 : Value).ownBlock ∧ some k_ ≠ (.slice Ao56 t186.length co56 : Value).ownBlock ∧ some k_ ≠ (.slice Ao60 t193.length co60 : Value).ownBlock) (fun _ => False) rfl rfl ?aO ?aR (fun _ _ h => h) (fun _ h => h.elim) ?aF ?aB ?aS ?aL ?_
      (case aR => exact C_up (Kd.C_below HR192_7.out HB.out))
      (case aB => exact (HB_up HB.out))
      (case aF => exact (fun k_ hk => ⟨Kd.fresh' (Kd.R_lt (R_up HO182.out)) k_ hk, Kd.fresh' (Kd.R_lt (R_up HO188.out)) k_ hk, Kd.fresh' (Kd.R_lt (R_up HO195.out)) k_ hk⟩))
      (case aO => exact (R_up HO198.out))
      (case aS => exact (below_size (HB_up HB.out)))
      (case aL => have := LMc44.out; omega)
      intro v200 w61 ho hb hg hat
      rw [← Ny199.out] at ho
      have n0_ := Aside0.mk (Kd.R_after (ok := (fun k_ => some k_ ≠ (.slice Ao56 t186.length co56 : Value).ownBlock ∧ some k_ ≠ (.slice Ao60 t193.length co60 : Value).ownBlock)) (R_up HO182.out) hg hat)
      have n1_ := Aside0.mk (Kd.R_after (ok := (fun k_ => some k_ ≠ (.slice Ao53 y180.length co53 : Value).ownBlock ∧ some k_ ≠ (.slice Ao60 t193.length co60 : Value).ownBlock)) (R_up HO188.out) hg hat)
      have n2_ := Aside0.mk (Kd.R_after (ok := (fun k_ => some k_ ≠ (.slice Ao53 y180.length co53 : Value).ownBlock ∧ some k_ ≠ (.slice Ao56 t186.length co56 : Value).ownBlock)) (R_up HO195.out) hg hat)
      have n3_ := Aside0.mk (hb)
      have n4_ := Aside0.mk (ho)
      clear HO182
      clear HO188
      clear HO195
      clear HB
      clear HO198
      have HO182 := n0_
      have HO188 := n1_
      have HO195 := n2_
      have HB := n3_
      have HO201 := n4_
      clear n0_ n1_ n2_ n3_ n4_
      clear ho hb hg hat
      refine hK.out _ _ ⟨(ck_ HB.out hw192_0), (ck_ HB.out hw192_1), (ck_ HB.out hw192_2), (ck_ HB.out hw192_3), (ck_ HB.out hw192_4), (ck_ HB.out hw192_5), (ck_ HB.out hw192_6), (ck_ HB.out hw192_7)⟩ (fun hHeld => ?_)
      clear hK K
      refine norm_ (a' := ?_) ?_ ?_
      rotate_left
      · show Act.put _ (some 97) _ = _
        simp only [Act.put, List.setIfInBounds_toArray, List.set_cons_zero, List.set_cons_succ, i64_w, i32_w]
        rfl
      refine pure_ (i := 13) (N := some 3) (v := ?_) (a' := ?_) #[true, true, true, true, true, true, true, true, true, true, true, true, true, true] rfl rfl (any_of HT_.out (by kernel_rfl)) (fun _ _ _ h => h) (Or.inl ⟨by rfl, ?_⟩) ?_ ?_; rotate_left
      · intro w'; go_simp; all_goals (first | with_reducible rfl | (simp [Instr.field, go_sem]; rfl))
      rotate_left
      · simp only [Act.put, List.setIfInBounds_toArray, List.set_cons_zero, List.set_cons_succ, i64_w, i32_w]; rfl
      refine done_ (done_of HT_.out (by kernel_rfl)) ?_
      obtain ⟨Ao62, co62, eo62⟩ := Kd.R_slice HO201.out
      subst eo62
      try go_wp2_with (first | ((with_reducible refine gate_callee (f := 73) rfl ?_); refine goesY_ (some 102) Try.func73 #[.int .i64 (wrap64 ((y199.length : Int) + 2))] rfl ?_; (with_reducible refine (spec_l9Two.calls (wrap64 ((y199.length : Int) + 2)) t202 _ A45.out).mono ?_); rintro e w63 ⟨v203, rfl, ho0, hb⟩; refine ⟨_, rfl, ?_⟩; have n0_ := Aside0.mk (Kd.R_elder' (R_up HO182.out) (Kd.R_base ho0) hb); have n1_ := Aside0.mk (Kd.R_elder' (R_up HO188.out) (Kd.R_base ho0) hb); have n2_ := Aside0.mk (Kd.R_elder' (R_up HO195.out) (Kd.R_base ho0) hb); have n3_ := Aside0.mk (Kd.R_elder' (R_up HO201.out) (Kd.R_base ho0) hb); have n4_ := Aside0.mk (Kd.R_lower (Kd.R_new' (Kd.R_new' (Kd.R_new' (Kd.R_new' ho0 (Kd.R_lt (R_up HO182.out))) (Kd.R_lt (R_up HO188.out))) (Kd.R_lt (R_up HO195.out))) (Kd.R_lt (R_up HO201.out))) (below_size (HB_up HB.out))); have n5_ := Aside0.mk (below_step (HB_up HB.out) hb); clear HO182; clear HO188; clear HO195; clear HO201; clear HB; have HO182 := n0_; have HO188 := n1_; have HO195 := n2_; have HO201 := n3_; have HO204 := n4_; have HB := n5_; clear n0_ n1_ n2_ n3_ n4_ n5_; (try clear hb); (try clear hb2); (try clear hk); (try clear hi); (try clear ho0); obtain ⟨Ao65, co65, eo65⟩ := Kd.R_slice HO204.out; subst eo65) | ((with_reducible refine gate_builtin (b := .copy) (xs := #[.tmp 98, .tmp 102]) rfl ?_); skip; refine Kd.R_copyv (w0 := w) w.heap.size rfl (.tmp 98) (.tmp 102) 24 5 rfl Try.underlying24 info5 (.slice Ao62 y199.length co62) y199 t202 _ _ _ (fun k_ => some k_ ≠ (.slice Ao53 y180.length co53 : Value).ownBlock ∧ some k_ ≠ (.slice Ao56 t186.length co56 : Value).ownBlock ∧ some k_ ≠ (.slice Ao60 t193.length co60 : Value).ownBlock ∧ some k_ ≠ (.slice Ao65 t202.length co65 : Value).ownBlock) rfl rfl ?aO ?aR ?aB ?aS ?_; (case aR => exact C_up (Kd.R_reads' HO204.out).2.2); (case aB => exact (HB_up HB.out)); (case aO => exact (by (with_reducible repeat (first | apply Kd.R_alloc | apply Kd.R_drewN | apply Kd.R_drew)); exact Kd.R_mono HO201.out (fun _ hk => ⟨hk.1.1, ⟨hk.1.2.1, ⟨hk.1.2.2, hk.2⟩⟩⟩))); (case aS => exact (below_size (HB_up HB.out))); intro v206 w64 hv_ ho hb hg hat k_; (rw [← hv_]; clear hv_); rw [← Ny205.out] at ho; have n0_ := Aside0.mk (Kd.R_after (ok := (fun k_ => some k_ ≠ (.slice Ao56 t186.length co56 : Value).ownBlock ∧ some k_ ≠ (.slice Ao60 t193.length co60 : Value).ownBlock ∧ some k_ ≠ (.slice Ao65 t202.length co65 : Value).ownBlock)) (by (with_reducible repeat (first | apply Kd.R_alloc | apply Kd.R_drewN | apply Kd.R_drew)); exact Kd.R_mono HO182.out (fun _ hk => ⟨⟨hk.1.1.1, ⟨hk.1.1.2, hk.2⟩⟩, hk.1.2⟩)) hg hat); have n1_ := Aside0.mk (Kd.R_after (ok := (fun k_ => some k_ ≠ (.slice Ao53 y180.length co53 : Value).ownBlock ∧ some k_ ≠ (.slice Ao60 t193.length co60 : Value).ownBlock ∧ some k_ ≠ (.slice Ao65 t202.length co65 : Value).ownBlock)) (by (with_reducible repeat (first | apply Kd.R_alloc | apply Kd.R_drewN | apply Kd.R_drew)); exact Kd.R_mono HO188.out (fun _ hk => ⟨⟨hk.1.1.1, ⟨hk.1.1.2, hk.2⟩⟩, hk.1.2⟩)) hg hat); have n2_ := Aside0.mk (Kd.R_after (ok := (fun k_ => some k_ ≠ (.slice Ao53 y180.length co53 : Value).ownBlock ∧ some k_ ≠ (.slice Ao56 t186.length co56 : Value).ownBlock ∧ some k_ ≠ (.slice Ao65 t202.length co65 : Value).ownBlock)) (by (with_reducible repeat (first | apply Kd.R_alloc | apply Kd.R_drewN | apply Kd.R_drew)); exact Kd.R_mono HO195.out (fun _ hk => ⟨⟨hk.1.1.1, ⟨hk.1.1.2, hk.2⟩⟩, hk.1.2⟩)) hg hat); have n3_ := Aside0.mk (Kd.R_after (ok := (fun k_ => some k_ ≠ (.slice Ao53 y180.length co53 : Value).ownBlock ∧ some k_ ≠ (.slice Ao56 t186.length co56 : Value).ownBlock ∧ some k_ ≠ (.slice Ao60 t193.length co60 : Value).ownBlock)) (by (with_reducible repeat (first | apply Kd.R_alloc | apply Kd.R_drewN | apply Kd.R_drew)); exact Kd.R_mono HO204.out (fun _ hk => ⟨⟨hk.1.1.1.2, ⟨hk.1.1.2, hk.1.2⟩⟩, hk.2⟩)) hg hat); have n4_ := Aside0.mk (hb); have n5_ := Aside0.mk (ho); clear HO182; clear HO188; clear HO195; clear HO204; clear HB; clear HO201; have HO182 := n0_; have HO188 := n1_; have HO195 := n2_; have HO204 := n3_; have HB := n4_; have HO207 := n5_; clear n0_ n1_ n2_ n3_ n4_ n5_; clear ho hb hg hat; obtain ⟨Ao66, co66, eo66⟩ := Kd.R_slice HO207.out; subst eo66) | ((with_reducible refine gate_callee (f := 74) rfl ?_); refine goesY_ (some 106) Try.func74 #[.slice Ao66 y205.length co66] rfl ?_; (with_reducible refine (spec_l9Sum.calls k1 _ _ y205 t208 _ ?_ ?_ A46.out).mono ?_); exact C_up (Kd.R_reads' HO207.out).2.2; exact (Kd.R_reads' HO207.out).2.1; rintro e w' ⟨rfl, ⟨nd, rfl⟩⟩; refine ⟨_, rfl, ?_⟩) | ((with_reducible refine gate_callee (f := 73) rfl ?_); refine goesY_ (some 107) Try.func73 #[.int .i64 t208] rfl ?_; (with_reducible refine (spec_l9Two.calls t208 t209 _ A47.out).mono ?_); rintro e w67 ⟨v210, rfl, ho0, hb⟩; refine ⟨_, rfl, ?_⟩; have n0_ := Aside0.mk (Kd.R_elder' (R_up HO182.out) (Kd.R_base ho0) hb); have n1_ := Aside0.mk (Kd.R_elder' (R_up HO188.out) (Kd.R_base ho0) hb); have n2_ := Aside0.mk (Kd.R_elder' (R_up HO195.out) (Kd.R_base ho0) hb); have n3_ := Aside0.mk (Kd.R_elder' (R_up HO204.out) (Kd.R_base ho0) hb); have n4_ := Aside0.mk (Kd.R_elder' (R_up HO207.out) (Kd.R_base ho0) hb); have n5_ := Aside0.mk (Kd.R_lower (Kd.R_new' (Kd.R_new' (Kd.R_new' (Kd.R_new' (Kd.R_new' ho0 (Kd.R_lt (R_up HO182.out))) (Kd.R_lt (R_up HO188.out))) (Kd.R_lt (R_up HO195.out))) (Kd.R_lt (R_up HO204.out))) (Kd.R_lt (R_up HO207.out))) (below_size (HB_up HB.out))); have n6_ := Aside0.mk (below_step (HB_up HB.out) hb); clear HO182; clear HO188; clear HO195; clear HO204; clear HO207; clear HB; have HO182 := n0_; have HO188 := n1_; have HO195 := n2_; have HO204 := n3_; have HO207 := n4_; have HO211 := n5_; have HB := n6_; clear n0_ n1_ n2_ n3_ n4_ n5_ n6_; (try clear hb); (try clear hb2); (try clear hk); (try clear hi); (try clear ho0); obtain ⟨Ao69, co69, eo69⟩ := Kd.R_slice HO211.out; subst eo69) | ((with_reducible refine gate_builtin (b := .append) (xs := #[.tmp 104, .tmp 107]) rfl ?_); at_builtin; refine Kd.R_append_rows (Kd.int .u8) (w0 := w) w.heap.size rfl (.tmp 104) (.tmp 107) 24 5 (.int .u8 0) 1 rfl Try.underlying24 info5 rfl (by decide) (by omega) (.slice Ao66 y205.length co66) y205 t209 _ _ _ (fun k_ => some k_ ≠ (.slice Ao53 y180.length co53 : Value).ownBlock ∧ some k_ ≠ (.slice Ao56 t186.length co56 : Value).ownBlock ∧ some k_ ≠ (.slice Ao60 t193.length co60 : Value).ownBlock ∧ some k_ ≠ (.slice Ao65 t202.length co65 : Value).ownBlock ∧ some k_ ≠ (.slice Ao69 t209.length co69 : Value).ownBlock) (fun _ => False) rfl rfl ?aO ?aR (fun _ _ h => h) (fun _ h => h.elim) ?aF ?aB ?aS ?aL ?_; (case aR => exact C_up (Kd.R_reads' HO211.out).2.2); (case aB => exact (HB_up HB.out)); (case aF => exact (fun k_ hk => ⟨Kd.fresh' (Kd.R_lt (R_up HO182.out)) k_ hk, Kd.fresh' (Kd.R_lt (R_up HO188.out)) k_ hk, Kd.fresh' (Kd.R_lt (R_up HO195.out)) k_ hk, Kd.fresh' (Kd.R_lt (R_up HO204.out)) k_ hk, Kd.fresh' (Kd.R_lt (R_up HO211.out)) k_ hk⟩)); (case aO => exact (by (with_reducible repeat (first | apply Kd.R_alloc | apply Kd.R_drewN | apply Kd.R_drew)); exact Kd.R_mono HO207.out (fun _ hk => ⟨hk.1.1, ⟨hk.1.2.1, ⟨hk.1.2.2.1, ⟨hk.1.2.2.2, hk.2⟩⟩⟩⟩))); (case aS => exact (below_size (HB_up HB.out))); (case aL => have := LMc48.out; omega); intro v213 w68 ho hb hg hat; rw [← Ny212.out] at ho; have n0_ := Aside0.mk (Kd.R_after (ok := (fun k_ => some k_ ≠ (.slice Ao56 t186.length co56 : Value).ownBlock ∧ some k_ ≠ (.slice Ao60 t193.length co60 : Value).ownBlock ∧ some k_ ≠ (.slice Ao65 t202.length co65 : Value).ownBlock ∧ some k_ ≠ (.slice Ao69 t209.length co69 : Value).ownBlock)) (by (with_reducible repeat (first | apply Kd.R_alloc | apply Kd.R_drewN | apply Kd.R_drew)); exact Kd.R_mono HO182.out (fun _ hk => ⟨⟨hk.1.1.1, ⟨hk.1.1.2.1, ⟨hk.1.1.2.2, hk.2⟩⟩⟩, hk.1.2⟩)) hg hat); have n1_ := Aside0.mk (Kd.R_after (ok := (fun k_ => some k_ ≠ (.slice Ao53 y180.length co53 : Value).ownBlock ∧ some k_ ≠ (.slice Ao60 t193.length co60 : Value).ownBlock ∧ some k_ ≠ (.slice Ao65 t202.length co65 : Value).ownBlock ∧ some k_ ≠ (.slice Ao69 t209.length co69 : Value).ownBlock)) (by (with_reducible repeat (first | apply Kd.R_alloc | apply Kd.R_drewN | apply Kd.R_drew)); exact Kd.R_mono HO188.out (fun _ hk => ⟨⟨hk.1.1.1, ⟨hk.1.1.2.1, ⟨hk.1.1.2.2, hk.2⟩⟩⟩, hk.1.2⟩)) hg hat); have n2_ := Aside0.mk (Kd.R_after (ok := (fun k_ => some k_ ≠ (.slice Ao53 y180.length co53 : Value).ownBlock ∧ some k_ ≠ (.slice Ao56 t186.length co56 : Value).ownBlock ∧ some k_ ≠ (.slice Ao65 t202.length co65 : Value).ownBlock ∧ some k_ ≠ (.slice Ao69 t209.length co69 : Value).ownBlock)) (by (with_reducible repeat (first | apply Kd.R_alloc | apply Kd.R_drewN | apply Kd.R_drew)); exact Kd.R_mono HO195.out (fun _ hk => ⟨⟨hk.1.1.1, ⟨hk.1.1.2.1, ⟨hk.1.1.2.2, hk.2⟩⟩⟩, hk.1.2⟩)) hg hat); have n3_ := Aside0.mk (Kd.R_after (ok := (fun k_ => some k_ ≠ (.slice Ao53 y180.length co53 : Value).ownBlock ∧ some k_ ≠ (.slice Ao56 t186.length co56 : Value).ownBlock ∧ some k_ ≠ (.slice Ao60 t193.length co60 : Value).ownBlock ∧ some k_ ≠ (.slice Ao69 t209.length co69 : Value).ownBlock)) (by (with_reducible repeat (first | apply Kd.R_alloc | apply Kd.R_drewN | apply Kd.R_drew)); exact Kd.R_mono HO204.out (fun _ hk => ⟨⟨hk.1.1.1, ⟨hk.1.1.2.1, ⟨hk.1.1.2.2, hk.2⟩⟩⟩, hk.1.2⟩)) hg hat); have n4_ := Aside0.mk (Kd.R_after (ok := (fun k_ => some k_ ≠ (.slice Ao53 y180.length co53 : Value).ownBlock ∧ some k_ ≠ (.slice Ao56 t186.length co56 : Value).ownBlock ∧ some k_ ≠ (.slice Ao60 t193.length co60 : Value).ownBlock ∧ some k_ ≠ (.slice Ao65 t202.length co65 : Value).ownBlock)) (by (with_reducible repeat (first | apply Kd.R_alloc | apply Kd.R_drewN | apply Kd.R_drew)); exact Kd.R_mono HO211.out (fun _ hk => ⟨⟨hk.1.1.1.1.2, ⟨hk.1.1.1.2, ⟨hk.1.1.2, hk.1.2⟩⟩⟩, hk.2⟩)) hg hat); have n5_ := Aside0.mk (hb); have n6_ := Aside0.mk (ho); clear HO182; clear HO188; clear HO195; clear HO204; clear HO211; clear HB; clear HO207; have HO182 := n0_; have HO188 := n1_; have HO195 := n2_; have HO204 := n3_; have HO211 := n4_; have HB := n5_; have HO214 := n6_; clear n0_ n1_ n2_ n3_ n4_ n5_ n6_; clear ho hb hg hat))
      go_ret
      exact ⟨_, ve_, by (with_reducible repeat (first | apply Kd.R_alloc | apply Kd.R_drewN | apply Kd.R_drew)); exact Kd.R_mono HO214.out (fun _ hk => trivial), hb_⟩
 · rw [if_neg c2] at H
   exact absurd H (by simp)

end Go.Proofs.Ytehdbobpbcjmeaa.PFnExactReadJournal

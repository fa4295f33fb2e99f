/- Functions of the program as Lean functions, each with the proof that its call comes to what that function says (texts written by a program of this session). Conditions: those that stand in each theorem. -/
import Derived.Test.YtehdbobpbcjmeaaPFnExactReadOpx0
import Derived.Test.YtehdbobpbcjmeaaPFnExactReadOpx2
namespace Go.Proofs.Ytehdbobpbcjmeaa.PFnExactReadOp
open Go.RowKit Go.Proofs.YtehdbobpbcjmeaaW.PrintWords Go.Proofs.YtehdbobpbcjmeaaW.PrintLast Go.Proofs.YtehdbobpbcjmeaaW.PrintMore
attribute [local go_sem] max2_int min2_int max_two min_two max_three min_three max_four min_four   -- for this text's walks alone
set_option linter.unusedVariables false
set_option linter.unusedSimpArgs false

/-! ### spec_l9Pack: function 42 -/
def spec_l9Pack.l0 : Nat → List (S37) → List Int → Int → Option (List Int)
 | 0, _, _, _ => none
 | k + 1, x0, x3, x4 => if 0 < (x0.length : Int) then (if x4 < (((rd_T37 x0 0).f3).length : Int) then (if 0 ≤ x4 then ((spec_l9Two.f (rd ((rd_T37 x0 0).f3) x4)).bind fun t165 => (if x3.length + t165.length < 140737488355328 then (spec_l9Pack.l0 k x0 (x3 ++ t165) (wrap64 (x4 + 1))) else (none))) else (none)) else ((some (([((rd_T37 x0 0).f4) % 256, ((rd_T37 x0 0).f5) % 256] : List Int) : List Int)).bind fun y172 => (if x3.length + y172.length < 140737488355328 then ((some (x3 ++ y172 : List Int)).bind fun y175 => ((spec_l9Two.f ((rd_T37 x0 0).f6)).bind fun t178 => (if y175.length + t178.length < 140737488355328 then ((some (y175 ++ t178 : List Int)).bind fun y181 => ((spec_l9Two.f (((rd_T37 x0 0).f7).length : Int)).bind fun t185 => (if y181.length + t185.length < 140737488355328 then ((some (y181 ++ t185 : List Int)).bind fun y188 => (if y188.length + ((rd_T37 x0 0).f7).length < 140737488355328 then ((some (y188 ++ ((rd_T37 x0 0).f7) : List Int)).bind fun y191 => ((spec_l9Two.f (wrap64 ((y191.length : Int) + 2))).bind fun t194 => ((some (cpy y191 t194 : List Int)).bind fun y197 => ((spec_l9Sum.f k y197).bind fun t200 => ((spec_l9Two.f t200).bind fun t201 => (if y197.length + t201.length < 140737488355328 then (some (y197 ++ t201)) else (none))))))) else (none))) else (none)))) else (none)))) else (none)))) else (none)
def spec_l9Pack.f (k : Nat) (l0 : List (S37)) : Option (List Int) := if 0 < (l0.length : Int) then ((some (([0, 0, ((rd_T37 l0 0).f0) % 256, ((((rd_T37 l0 0).f1).size : Int)) % 256] : List Int) : List Int)).bind fun y133 => (if ((rd_T37 l0 0).f1).size < 140737488355328 then ((some (bytesOf ((rd_T37 l0 0).f1) : List Int)).bind fun y137 => (if y133.length + y137.length < 140737488355328 then ((some (y133 ++ y137 : List Int)).bind fun y140 => ((some (([((((rd_T37 l0 0).f2).size : Int)) % 256] : List Int) : List Int)).bind fun y143 => (if y140.length + y143.length < 140737488355328 then ((some (y140 ++ y143 : List Int)).bind fun y146 => (if ((rd_T37 l0 0).f2).size < 140737488355328 then ((some (bytesOf ((rd_T37 l0 0).f2) : List Int)).bind fun y149 => (if y146.length + y149.length < 140737488355328 then ((some (y146 ++ y149 : List Int)).bind fun y152 => ((some (([((((rd_T37 l0 0).f3).length : Int)) % 256] : List Int) : List Int)).bind fun y156 => (if y152.length + y156.length < 140737488355328 then (spec_l9Pack.l0 k l0 (y152 ++ y156) 0) else (none)))) else (none))) else (none))) else (none)))) else (none))) else (none))) else (none)
def spec_l9Pack.T1 : Bool × List (List Nat × List Nat) := (true, [([], []), ([0], [0]), ([1], [1]), ([2], [2]), ([3], [3]), ([], []), ([5], [5]), ([6], [6]), ([7], [7]), ([8], [8]), ([9], [9]), ([4, 10], [4, 10]), ([11, 0, 1, 2, 3, 4, 5, 6, 7, 8, 9, 10, 11], [11])])
def spec_l9Pack.B1 : List Nat := [0, 1, 3, 7, 15, 0, 32, 96, 224, 480, 992, 2047, 4095]
theorem spec_l9Pack.tab1 : rtab .any (opsOf Try.f42 1) = spec_l9Pack.T1 := by kernel_rfl
theorem spec_l9Pack.bits1 : waitsOk spec_l9Pack.T1.2 spec_l9Pack.B1 = true := by kernel_rfl
def spec_l9Pack.T2 : Bool × List (List Nat × List Nat) := (true, [([], []), ([], []), ([1], [1]), ([2], [2]), ([3], [3]), ([4], [4]), ([0, 5], [0, 5]), ([], []), ([7], [7]), ([8], [8]), ([9], [9]), ([10], [10]), ([11], [11]), ([12], [12]), ([6, 13, 6], [6, 13]), ([], []), ([15], [15]), ([16], [16]), ([17], [17]), ([18], [18]), ([14, 19, 14], [14, 19]), ([20, 20, 0, 1, 2, 3, 4, 5, 6, 7, 8, 9, 10, 11, 12, 13, 14, 15, 16, 17, 18, 19, 20], [0, 20])])
def spec_l9Pack.B2 : List Nat := [0, 0, 2, 6, 14, 30, 63, 0, 128, 384, 896, 1920, 3968, 8064, 16383, 0, 32768, 98304, 229376, 491520, 1048575, 2097151]
theorem spec_l9Pack.tab2 : rtab .any (opsOf Try.f42 2) = spec_l9Pack.T2 := by kernel_rfl
theorem spec_l9Pack.bits2 : waitsOk spec_l9Pack.T2.2 spec_l9Pack.B2 = true := by kernel_rfl
def spec_l9Pack.T8 : Bool × List (List Nat × List Nat) := (true, [([], []), ([], []), ([1], [1]), ([2], [2]), ([3], [3]), ([4], [4]), ([], []), ([6], [6]), ([7], [7]), ([8], [8]), ([9], [9]), ([5, 10], [5, 10]), ([0, 11], [0, 11]), ([], []), ([13], [13]), ([14], [14]), ([15], [15]), ([16, 12], [16]), ([12, 17, 17], [12, 17]), ([18, 18, 0, 1, 2, 3, 4, 5, 6, 7, 8, 9, 10, 11, 12, 13, 14, 15, 16, 17, 18], [0, 18])])
def spec_l9Pack.B8 : List Nat := [0, 0, 2, 6, 14, 30, 0, 64, 192, 448, 960, 2046, 4095, 0, 8192, 24576, 57344, 131071, 262143, 524287]
theorem spec_l9Pack.tab8 : rtab .any (opsOf Try.f42 8) = spec_l9Pack.T8 := by kernel_rfl
theorem spec_l9Pack.bits8 : waitsOk spec_l9Pack.T8.2 spec_l9Pack.B8 = true := by kernel_rfl
def spec_l9Pack.T9 : Bool × List (List Nat × List Nat) := (true, [([], []), ([], []), ([1], [1]), ([2], [2]), ([3], [3]), ([4], [4]), ([5], [5]), ([0, 6, 6], [0, 6]), ([], []), ([8], [8]), ([9], [9]), ([10], [10]), ([7, 11, 7], [7, 11]), ([12, 12, 0, 1, 2, 3, 4, 5, 6, 7, 8, 9, 10, 11, 12], [0, 12])])
def spec_l9Pack.B9 : List Nat := [0, 0, 2, 6, 14, 30, 62, 127, 0, 256, 768, 1792, 4095, 8191]
theorem spec_l9Pack.tab9 : rtab .any (opsOf Try.f42 9) = spec_l9Pack.T9 := by kernel_rfl
theorem spec_l9Pack.bits9 : waitsOk spec_l9Pack.T9.2 spec_l9Pack.B9 = true := by kernel_rfl
set_option maxHeartbeats 8000000 in
set_option maxRecDepth 100000 in
theorem spec_l9Pack.calls (k : Nat) (A0 : Option Addr) (c0 : Nat) (l0 : List (S37)) (r : List Int) (w : World) (hr0 : Kd.C k37 w A0 l0.length l0) (hc0 : l0.length ≤ c0) (h : spec_l9Pack.f k l0 = some r) :
 Calls Try.prog 42 #[.pointer A0] w fun e w' => ∃ v0_ : Value, e = .returned (v0_) ∧ Kd.R (Kd.int .u8) 5 w' w.heap.size (fun _ => True) v0_ r ∧ Below w.heap.size w w' := by
 have HR0 := Aside0.mk hr0
 have HC0 := Aside0.mk hc0
 clear hr0 hc0
 have HB := Aside0.mk (Below.refl w.heap.size w)
 have H : (if 0 < (l0.length : Int) then ((some (([0, 0, ((rd_T37 l0 0).f0) % 256, ((((rd_T37 l0 0).f1).size : Int)) % 256] : List Int) : List Int)).bind fun y133 => (if ((rd_T37 l0 0).f1).size < 140737488355328 then ((some (bytesOf ((rd_T37 l0 0).f1) : List Int)).bind fun y137 => (if y133.length + y137.length < 140737488355328 then ((some (y133 ++ y137 : List Int)).bind fun y140 => ((some (([((((rd_T37 l0 0).f2).size : Int)) % 256] : List Int) : List Int)).bind fun y143 => (if y140.length + y143.length < 140737488355328 then ((some (y140 ++ y143 : List Int)).bind fun y146 => (if ((rd_T37 l0 0).f2).size < 140737488355328 then ((some (bytesOf ((rd_T37 l0 0).f2) : List Int)).bind fun y149 => (if y146.length + y149.length < 140737488355328 then ((some (y146 ++ y149 : List Int)).bind fun y152 => ((some (([((((rd_T37 l0 0).f3).length : Int)) % 256] : List Int) : List Int)).bind fun y156 => (if y152.length + y156.length < 140737488355328 then (spec_l9Pack.l0 k l0 (y152 ++ y156) 0) else (none)))) else (none))) else (none))) else (none)))) else (none))) else (none))) else (none)) = some r := h
 clear h
 by_cases c2 : 0 < (l0.length : Int)
 ·
  rw [if_pos c2] at H
  have c2b0 : decide (0 < (l0.length : Int)) = true := decide_eq_true c2
  have c2b1 : decide (0 < l0.length) = true := decide_eq_true (by omega)
  clear c2
  obtain ⟨y133, hy133⟩ : ∃ y_ : List Int, y_ = (([0, 0, ((rd_T37 l0 0).f0) % 256, ((((rd_T37 l0 0).f1).size : Int)) % 256] : List Int)) := ⟨_, rfl⟩
  replace H : (if ((rd_T37 l0 0).f1).size < 140737488355328 then ((some (bytesOf ((rd_T37 l0 0).f1) : List Int)).bind fun y137 => (if y133.length + y137.length < 140737488355328 then ((some (y133 ++ y137 : List Int)).bind fun y140 => ((some (([((((rd_T37 l0 0).f2).size : Int)) % 256] : List Int) : List Int)).bind fun y143 => (if y140.length + y143.length < 140737488355328 then ((some (y140 ++ y143 : List Int)).bind fun y146 => (if ((rd_T37 l0 0).f2).size < 140737488355328 then ((some (bytesOf ((rd_T37 l0 0).f2) : List Int)).bind fun y149 => (if y146.length + y149.length < 140737488355328 then ((some (y146 ++ y149 : List Int)).bind fun y152 => ((some (([((((rd_T37 l0 0).f3).length : Int)) % 256] : List Int) : List Int)).bind fun y156 => (if y152.length + y156.length < 140737488355328 then (spec_l9Pack.l0 k l0 (y152 ++ y156) 0) else (none)))) else (none))) else (none))) else (none)))) else (none))) else (none)) = some r := by first | (rw [hy133]; with_reducible exact H) | (have H2_ := (Option.bind_some _ _).symm.trans H; rw [hy133]; with_reducible exact H2_) | (have H2_ := (Option.bind_some _ _).symm.trans H; with_reducible exact H2_) | with_reducible exact H | (rw [hy133]; exact H) | exact H
  have Ny133 := Aside0.mk hy133
  clear hy133
  by_cases c3 : ((rd_T37 l0 0).f1).size < 140737488355328
  case neg => rw [if_neg c3] at H; exact absurd H (by simp)
  rw [if_pos c3] at H
  have LMc3 := Aside0.mk c3
  clear c3
  obtain ⟨y137, hy137⟩ : ∃ y_ : List Int, y_ = (bytesOf ((rd_T37 l0 0).f1)) := ⟨_, rfl⟩
  replace H : (if y133.length + y137.length < 140737488355328 then ((some (y133 ++ y137 : List Int)).bind fun y140 => ((some (([((((rd_T37 l0 0).f2).size : Int)) % 256] : List Int) : List Int)).bind fun y143 => (if y140.length + y143.length < 140737488355328 then ((some (y140 ++ y143 : List Int)).bind fun y146 => (if ((rd_T37 l0 0).f2).size < 140737488355328 then ((some (bytesOf ((rd_T37 l0 0).f2) : List Int)).bind fun y149 => (if y146.length + y149.length < 140737488355328 then ((some (y146 ++ y149 : List Int)).bind fun y152 => ((some (([((((rd_T37 l0 0).f3).length : Int)) % 256] : List Int) : List Int)).bind fun y156 => (if y152.length + y156.length < 140737488355328 then (spec_l9Pack.l0 k l0 (y152 ++ y156) 0) else (none)))) else (none))) else (none))) else (none)))) else (none)) = some r := by first | (rw [hy137]; with_reducible exact H) | (have H2_ := (Option.bind_some _ _).symm.trans H; rw [hy137]; with_reducible exact H2_) | (have H2_ := (Option.bind_some _ _).symm.trans H; with_reducible exact H2_) | with_reducible exact H | (rw [hy137]; exact H) | exact H
  have Ny137 := Aside0.mk hy137
  clear hy137
  by_cases c4 : y133.length + y137.length < 140737488355328
  case neg => rw [if_neg c4] at H; exact absurd H (by simp)
  rw [if_pos c4] at H
  have LMc4 := Aside0.mk c4
  clear c4
  obtain ⟨y140, hy140⟩ : ∃ y_ : List Int, y_ = (y133 ++ y137) := ⟨_, rfl⟩
  replace H : ((some (([((((rd_T37 l0 0).f2).size : Int)) % 256] : List Int) : List Int)).bind fun y143 => (if y140.length + y143.length < 140737488355328 then ((some (y140 ++ y143 : List Int)).bind fun y146 => (if ((rd_T37 l0 0).f2).size < 140737488355328 then ((some (bytesOf ((rd_T37 l0 0).f2) : List Int)).bind fun y149 => (if y146.length + y149.length < 140737488355328 then ((some (y146 ++ y149 : List Int)).bind fun y152 => ((some (([((((rd_T37 l0 0).f3).length : Int)) % 256] : List Int) : List Int)).bind fun y156 => (if y152.length + y156.length < 140737488355328 then (spec_l9Pack.l0 k l0 (y152 ++ y156) 0) else (none)))) else (none))) else (none))) else (none))) = some r := by first | (rw [hy140]; with_reducible exact H) | (have H2_ := (Option.bind_some _ _).symm.trans H; rw [hy140]; with_reducible exact H2_) | (have H2_ := (Option.bind_some _ _).symm.trans H; with_reducible exact H2_) | with_reducible exact H | (rw [hy140]; exact H) | exact H
  have Ny140 := Aside0.mk hy140
  clear hy140
  obtain ⟨y143, hy143⟩ : ∃ y_ : List Int, y_ = (([((((rd_T37 l0 0).f2).size : Int)) % 256] : List Int)) := ⟨_, rfl⟩
  replace H : (if y140.length + y143.length < 140737488355328 then ((some (y140 ++ y143 : List Int)).bind fun y146 => (if ((rd_T37 l0 0).f2).size < 140737488355328 then ((some (bytesOf ((rd_T37 l0 0).f2) : List Int)).bind fun y149 => (if y146.length + y149.length < 140737488355328 then ((some (y146 ++ y149 : List Int)).bind fun y152 => ((some (([((((rd_T37 l0 0).f3).length : Int)) % 256] : List Int) : List Int)).bind fun y156 => (if y152.length + y156.length < 140737488355328 then (spec_l9Pack.l0 k l0 (y152 ++ y156) 0) else (none)))) else (none))) else (none))) else (none)) = some r := by first | (rw [hy143]; with_reducible exact H) | (have H2_ := (Option.bind_some _ _).symm.trans H; rw [hy143]; with_reducible exact H2_) | (have H2_ := (Option.bind_some _ _).symm.trans H; with_reducible exact H2_) | with_reducible exact H | (rw [hy143]; exact H) | exact H
  have Ny143 := Aside0.mk hy143
  clear hy143
  by_cases c5 : y140.length + y143.length < 140737488355328
  case neg => rw [if_neg c5] at H; exact absurd H (by simp)
  rw [if_pos c5] at H
  have LMc5 := Aside0.mk c5
  clear c5
  obtain ⟨y146, hy146⟩ : ∃ y_ : List Int, y_ = (y140 ++ y143) := ⟨_, rfl⟩
  replace H : (if ((rd_T37 l0 0).f2).size < 140737488355328 then ((some (bytesOf ((rd_T37 l0 0).f2) : List Int)).bind fun y149 => (if y146.length + y149.length < 140737488355328 then ((some (y146 ++ y149 : List Int)).bind fun y152 => ((some (([((((rd_T37 l0 0).f3).length : Int)) % 256] : List Int) : List Int)).bind fun y156 => (if y152.length + y156.length < 140737488355328 then (spec_l9Pack.l0 k l0 (y152 ++ y156) 0) else (none)))) else (none))) else (none)) = some r := by first | (rw [hy146]; with_reducible exact H) | (have H2_ := (Option.bind_some _ _).symm.trans H; rw [hy146]; with_reducible exact H2_) | (have H2_ := (Option.bind_some _ _).symm.trans H; with_reducible exact H2_) | with_reducible exact H | (rw [hy146]; exact H) | exact H
  have Ny146 := Aside0.mk hy146
  clear hy146
  by_cases c6 : ((rd_T37 l0 0).f2).size < 140737488355328
  case neg => rw [if_neg c6] at H; exact absurd H (by simp)
  rw [if_pos c6] at H
  have LMc6 := Aside0.mk c6
  clear c6
  obtain ⟨y149, hy149⟩ : ∃ y_ : List Int, y_ = (bytesOf ((rd_T37 l0 0).f2)) := ⟨_, rfl⟩
  replace H : (if y146.length + y149.length < 140737488355328 then ((some (y146 ++ y149 : List Int)).bind fun y152 => ((some (([((((rd_T37 l0 0).f3).length : Int)) % 256] : List Int) : List Int)).bind fun y156 => (if y152.length + y156.length < 140737488355328 then (spec_l9Pack.l0 k l0 (y152 ++ y156) 0) else (none)))) else (none)) = some r := by first | (rw [hy149]; with_reducible exact H) | (have H2_ := (Option.bind_some _ _).symm.trans H; rw [hy149]; with_reducible exact H2_) | (have H2_ := (Option.bind_some _ _).symm.trans H; with_reducible exact H2_) | with_reducible exact H | (rw [hy149]; exact H) | exact H
  have Ny149 := Aside0.mk hy149
  clear hy149
  by_cases c7 : y146.length + y149.length < 140737488355328
  case neg => rw [if_neg c7] at H; exact absurd H (by simp)
  rw [if_pos c7] at H
  have LMc7 := Aside0.mk c7
  clear c7
  obtain ⟨y152, hy152⟩ : ∃ y_ : List Int, y_ = (y146 ++ y149) := ⟨_, rfl⟩
  replace H : ((some (([((((rd_T37 l0 0).f3).length : Int)) % 256] : List Int) : List Int)).bind fun y156 => (if y152.length + y156.length < 140737488355328 then (spec_l9Pack.l0 k l0 (y152 ++ y156) 0) else (none))) = some r := by first | (rw [hy152]; with_reducible exact H) | (have H2_ := (Option.bind_some _ _).symm.trans H; rw [hy152]; with_reducible exact H2_) | (have H2_ := (Option.bind_some _ _).symm.trans H; with_reducible exact H2_) | with_reducible exact H | (rw [hy152]; exact H) | exact H
  have Ny152 := Aside0.mk hy152
  clear hy152
  obtain ⟨y156, hy156⟩ : ∃ y_ : List Int, y_ = (([((((rd_T37 l0 0).f3).length : Int)) % 256] : List Int)) := ⟨_, rfl⟩
  replace H : (if y152.length + y156.length < 140737488355328 then (spec_l9Pack.l0 k l0 (y152 ++ y156) 0) else (none)) = some r := by first | (rw [hy156]; with_reducible exact H) | (have H2_ := (Option.bind_some _ _).symm.trans H; rw [hy156]; with_reducible exact H2_) | (have H2_ := (Option.bind_some _ _).symm.trans H; with_reducible exact H2_) | with_reducible exact H | (rw [hy156]; exact H) | exact H
  have Ny156 := Aside0.mk hy156
  clear hy156
  by_cases c8 : y152.length + y156.length < 140737488355328
  case neg => rw [if_neg c8] at H; exact absurd H (by simp)
  rw [if_pos c8] at H
  have LMc8 := Aside0.mk c8
  clear c8
  obtain ⟨y159, hy159⟩ : ∃ y_ : List Int, y_ = (y152 ++ y156) := ⟨_, rfl⟩
  replace H : (spec_l9Pack.l0 k l0 y159 0) = some r := by first | (rw [hy159]; with_reducible exact H) | (have H2_ := (Option.bind_some _ _).symm.trans H; rw [hy159]; with_reducible exact H2_) | (have H2_ := (Option.bind_some _ _).symm.trans H; with_reducible exact H2_) | with_reducible exact H | (rw [hy159]; exact H) | exact H
  have Ny159 := Aside0.mk hy159
  clear hy159
  have H' := Aside0.mk H
  clear H
  go_enter Try.func42, Try.ntmps42
  try go_wp2
  replace HB := Aside0.mk (below_drew1 HB.out)
  have p132 : 0 ≤ (0 : Int) := (by omega)
  have q132 : 0 < (l0.length : Int) := od_
  obtain ⟨ad132, A132_3, c132_3, A132_7, c132_7, e132, hx132_0, hx132_1, hx132_2, hx132_3, hx132_4, hx132_5, hx132_6, hx132_7, hl132_3, hi132_3, hl132_7, hi132_7⟩ := at_T37 HR0.out 0 p132 q132
  have hw132_7 := hx132_7
  (try simp only [Int.toNat_zero, Nat.zero_mul, Addr.add_zero'] at hw132_7)
  have hw132_6 := hx132_6
  (try simp only [Int.toNat_zero, Nat.zero_mul, Addr.add_zero'] at hw132_6)
  have hw132_5 := hx132_5
  (try simp only [Int.toNat_zero, Nat.zero_mul, Addr.add_zero'] at hw132_5)
  have hw132_4 := hx132_4
  (try simp only [Int.toNat_zero, Nat.zero_mul, Addr.add_zero'] at hw132_4)
  have hw132_3 := hx132_3
  (try simp only [Int.toNat_zero, Nat.zero_mul, Addr.add_zero'] at hw132_3)
  have hw132_2 := hx132_2
  (try simp only [Int.toNat_zero, Nat.zero_mul, Addr.add_zero'] at hw132_2)
  have hw132_1 := hx132_1
  (try simp only [Int.toNat_zero, Nat.zero_mul, Addr.add_zero'] at hw132_1)
  have hw132_0 := hx132_0
  (try simp only [Int.toNat_zero, Nat.zero_mul, Addr.add_zero'] at hw132_0)
  cases e132
  have qi132 : (0 < l0.length) = True := eq_true (by omega)
  (try simp only [Int.toNat_zero, Nat.zero_mul, Addr.add_zero'] at hx132_0 hx132_1 hx132_2 hx132_3 hx132_4 hx132_5 hx132_6 hx132_7)
  replace hx132_0 := ck_ HB.out hx132_0
  replace hx132_1 := ck_ HB.out hx132_1
  replace hx132_2 := ck_ HB.out hx132_2
  replace hx132_3 := ck_ HB.out hx132_3
  replace hx132_4 := ck_ HB.out hx132_4
  replace hx132_5 := ck_ HB.out hx132_5
  replace hx132_6 := ck_ HB.out hx132_6
  replace hx132_7 := ck_ HB.out hx132_7
  have HR132_3 := Aside0.mk hi132_3
  have HC132_3 := Aside0.mk hl132_3
  clear hi132_3 hl132_3
  have HR132_7 := Aside0.mk hi132_7
  have HC132_7 := Aside0.mk hl132_7
  clear hi132_7 hl132_7
  replace p132 := eq_true p132
  replace q132 := eq_true q132
  refine start_ (n := 13) (S := fun w' => w'.cell? ad132 = some (.int .i64 ((rd_T37 l0 0).f0)) ∧ w'.cell? ⟨ad132.block, ad132.off + 1, none⟩ = some (.string ((rd_T37 l0 0).f1)) ∧ w'.cell? ⟨ad132.block, ad132.off + 2, none⟩ = some (.string ((rd_T37 l0 0).f2)) ∧ w'.cell? ⟨ad132.block, ad132.off + 3, none⟩ = some (.slice A132_3 ((rd_T37 l0 0).f3).length c132_3) ∧ w'.cell? ⟨ad132.block, ad132.off + 4, none⟩ = some (.int .i64 ((rd_T37 l0 0).f4)) ∧ w'.cell? ⟨ad132.block, ad132.off + 5, none⟩ = some (.int .i64 ((rd_T37 l0 0).f5)) ∧ w'.cell? ⟨ad132.block, ad132.off + 6, none⟩ = some (.int .i64 ((rd_T37 l0 0).f6)) ∧ w'.cell? ⟨ad132.block, ad132.off + 7, none⟩ = some (.slice A132_7 ((rd_T37 l0 0).f7).length c132_7)) (ds := []) #[false, false, false, false, false, false, false, false, false, false, false, false, false] (by kernel_rfl) rfl rfl ⟨(ck_ HB.out hw132_0), (ck_ HB.out hw132_1), (ck_ HB.out hw132_2), (ck_ HB.out hw132_3), (ck_ HB.out hw132_4), (ck_ HB.out hw132_5), (ck_ HB.out hw132_6), (ck_ HB.out hw132_7)⟩ (fun hHeld => ?_); refine with_tabW spec_l9Pack.tab1 spec_l9Pack.bits1 (fun HT_ HW_ => ?_)
  generalize w.drew = w9 at HB HR132_3 HR132_7 hx132_0 hx132_1 hx132_2 hx132_3 hx132_4 hx132_5 hx132_6 hx132_7 hHeld ⊢
  refine pure_ (i := 0) (N := some 5) (v := ?_) (a' := ?_) #[true, false, false, false, false, false, false, false, false, false, false, false, false] rfl rfl (any_of HT_.out (by kernel_rfl)) (fun _ _ _ h => h) (Or.inl ⟨by rfl, ?_⟩) ?_ ?_; rotate_left
  · intro w'; go_simp; all_goals (first | with_reducible rfl | (simp [Instr.field, go_sem]; rfl))
  rotate_left
  · simp only [Act.put, List.setIfInBounds_toArray, List.set_cons_zero, List.set_cons_succ, i64_w, i32_w]; rfl
  refine pure_ (i := 1) (N := some 6) (v := ?_) (a' := ?_) #[true, true, false, false, false, false, false, false, false, false, false, false, false] rfl rfl (any_of HT_.out (by kernel_rfl)) (fun _ _ _ h => h) (Or.inl ⟨by rfl, ?_⟩) ?_ ?_; rotate_left
  · intro w'; go_simp; all_goals (first | with_reducible rfl | (simp [Instr.field, go_sem]; rfl))
  rotate_left
  · simp only [Act.put, List.setIfInBounds_toArray, List.set_cons_zero, List.set_cons_succ, i64_w, i32_w]; rfl
  refine pure_ (i := 2) (N := some 7) (v := ?_) (a' := ?_) #[true, true, true, false, false, false, false, false, false, false, false, false, false] rfl rfl (any_of HT_.out (by kernel_rfl)) (fun _ _ _ h => h) (Or.inl ⟨by rfl, ?_⟩) ?_ ?_; rotate_left
  · intro w'; go_simp; all_goals (first | with_reducible rfl | (simp [Instr.field, go_sem]; rfl))
  rotate_left
  · simp only [Act.put, List.setIfInBounds_toArray, List.set_cons_zero, List.set_cons_succ, i64_w, i32_w]; rfl
  refine pure_ (i := 5) (N := some 10) (v := ?_) (a' := ?_) #[true, true, true, false, false, true, false, false, false, false, false, false, false] rfl rfl (any_of HT_.out (by kernel_rfl)) (fun _ _ _ h => h) (Or.inl ⟨by rfl, ?_⟩) ?_ ?_; rotate_left
  · intro w'; go_simp; all_goals (first | with_reducible rfl | (simp [Instr.field, go_sem]; rfl))
  rotate_left
  · simp only [Act.put, List.setIfInBounds_toArray, List.set_cons_zero, List.set_cons_succ, i64_w, i32_w]; rfl
  refine pure_ (i := 6) (N := some 11) (v := ?_) (a' := ?_) #[true, true, true, false, false, true, true, false, false, false, false, false, false] rfl rfl (any_of HT_.out (by kernel_rfl)) (fun _ _ _ h => h) (Or.inl ⟨by rfl, ?_⟩) ?_ ?_; rotate_left
  · intro w'; go_simp; all_goals (first | with_reducible rfl | (simp [Instr.field, go_sem]; rfl))
  rotate_left
  · simp only [Act.put, List.setIfInBounds_toArray, List.set_cons_zero, List.set_cons_succ, i64_w, i32_w]; rfl
  refine pure_ (i := 7) (N := some 12) (v := ?_) (a' := ?_) #[true, true, true, false, false, true, true, true, false, false, false, false, false] rfl rfl (any_of HT_.out (by kernel_rfl)) (fun _ _ _ h => h) (Or.inl ⟨by rfl, ?_⟩) ?_ ?_; rotate_left
  · intro w'; go_simp; all_goals (first | with_reducible rfl | (simp [Instr.field, go_sem]; rfl))
  rotate_left
  · simp only [Act.put, List.setIfInBounds_toArray, List.set_cons_zero, List.set_cons_succ, i64_w, i32_w]; rfl
  refine take_ (i := 3) (N := some 8) (v := ?_) (a' := ?_) #[true, true, true, true, false, true, true, true, false, false, false, false, false] rfl rfl (take_ofW HT_.out HW_.out (by kernel_rfl)) (fun _ _ _ h => h) (Or.inl ⟨by rfl, ?_⟩) hHeld ?_ ?_; rotate_left
  · rintro w' ⟨s0, s1, s2, s3, s4, s5, s6, s7⟩; go_simp; all_goals (first | with_reducible rfl | (simp [Instr.field, go_sem]; rfl))
  rotate_left
  · simp only [Act.put, List.setIfInBounds_toArray, List.set_cons_zero, List.set_cons_succ, i64_w, i32_w]; rfl
  refine pure_ (i := 4) (N := some 9) (v := ?_) (a' := ?_) #[true, true, true, true, true, true, true, true, false, false, false, false, false] rfl rfl (any_of HT_.out (by kernel_rfl)) (fun _ _ _ h => h) (Or.inl ⟨by rfl, ?_⟩) ?_ ?_; rotate_left
  · intro w'; go_simp; all_goals (first | with_reducible rfl | (simp [Instr.field, go_sem]; rfl))
  rotate_left
  · simp only [Act.put, List.setIfInBounds_toArray, List.set_cons_zero, List.set_cons_succ, i64_w, i32_w]; rfl
  refine take_ (i := 8) (N := some 13) (v := ?_) (a' := ?_) #[true, true, true, true, true, true, true, true, true, false, false, false, false] rfl rfl (take_ofW HT_.out HW_.out (by kernel_rfl)) (fun _ _ _ h => h) (Or.inl ⟨by rfl, ?_⟩) hHeld ?_ ?_; rotate_left
  · rintro w' ⟨s0, s1, s2, s3, s4, s5, s6, s7⟩; go_simp; all_goals (first | with_reducible rfl | (simp [Instr.field, go_sem]; rfl))
  rotate_left
  · simp only [Act.put, List.setIfInBounds_toArray, List.set_cons_zero, List.set_cons_succ, i64_w, i32_w]; rfl
  refine pure_ (i := 9) (N := some 14) (v := ?_) (a' := ?_) #[true, true, true, true, true, true, true, true, true, true, false, false, false] rfl rfl (any_of HT_.out (by kernel_rfl)) (fun _ _ _ h => h) (Or.inl ⟨by rfl, ?_⟩) ?_ ?_; rotate_left
  · intro w'; go_simp; all_goals (first | with_reducible rfl | (simp [Instr.field, go_sem]; rfl))
  rotate_left
  · simp only [Act.put, List.setIfInBounds_toArray, List.set_cons_zero, List.set_cons_succ, i64_w, i32_w]; rfl
  refine pure_ (i := 10) (N := some 15) (v := ?_) (a' := ?_) #[true, true, true, true, true, true, true, true, true, true, true, false, false] rfl rfl (any_of HT_.out (by kernel_rfl)) (fun _ _ _ h => h) (Or.inl ⟨by rfl, ?_⟩) ?_ ?_; rotate_left
  · intro w'; go_simp; all_goals (first | with_reducible rfl | (simp [Instr.field, go_sem]; rfl))
  rotate_left
  · simp only [Act.put, List.setIfInBounds_toArray, List.set_cons_zero, List.set_cons_succ, i64_w, i32_w]; rfl
  refine one_ (i := 11) (N := some 16) #[true, true, true, true, true, true, true, true, true, true, true, true, false] rfl rfl (one_of HT_.out (by kernel_rfl)) (by decide) (fun K hK => ?_)
  refine Kd.R_lit_step (Kd.int .u8) _ 5 ?hg (N := 16) ?hd (xs := ([0, 0, ((rd_T37 l0 0).f0) % 256, ((((rd_T37 l0 0).f1).size : Int)) % 256] : List Int)) (inner := [.int .u8 0, .int .u8 0, .int .u8 (((rd_T37 l0 0).f0) % 256), .int .u8 (((((rd_T37 l0 0).f1).size : Int)) % 256)]) (ok := fun _ => True) (okp := fun _ => True) ?hr ?hp (fun _ hk => hk) trivial (Below.refl _ _) (Nat.le_refl _) (by simp) ?_; (case hd => rfl); (case hg => rfl); (case hr => first | (go_simp; done) | (go_simp; rfl)); (case hp => exact (Reps.one (show Kd.M (Kd.int .u8) _ _ _ 0 [.int .u8 0] from rfl) (Reps.one (show Kd.M (Kd.int .u8) _ _ _ 0 [.int .u8 0] from rfl) (Reps.one (show Kd.M (Kd.int .u8) _ _ _ (((rd_T37 l0 0).f0) % 256) [.int .u8 (((rd_T37 l0 0).f0) % 256)] from rfl) (Reps.one (show Kd.M (Kd.int .u8) _ _ _ (((((rd_T37 l0 0).f1).size : Int)) % 256) [.int .u8 (((((rd_T37 l0 0).f1).size : Int)) % 256)] from rfl) (Reps.none _ _))))))
  intro v134 w10 ho11 hb hg_ hnew_
  clear hg_ hnew_
  (first | rw [← Ny133.out] at ho11 | (simp only [Int.reduceToNat] at ho11; rw [← Ny133.out] at ho11))
  have HO135 := Aside0.mk (Kd.R_lower ho11 (below_size (HB_up HB.out)))
  replace HB := Aside0.mk (below_step (HB_up HB.out) hb)
  clear hb ho11
  refine hK.out _ _ ⟨(ck_ HB.out hw132_0), (ck_ HB.out hw132_1), (ck_ HB.out hw132_2), (ck_ HB.out hw132_3), (ck_ HB.out hw132_4), (ck_ HB.out hw132_5), (ck_ HB.out hw132_6), (ck_ HB.out hw132_7)⟩ (fun hHeld => ?_)
  clear hK K
  refine norm_ (a' := ?_) ?_ ?_
  rotate_left
  · show Act.put _ (some 16) _ = _
    simp only [Act.put, List.setIfInBounds_toArray, List.set_cons_zero, List.set_cons_succ, i64_w, i32_w]
    rfl
  refine pure_ (i := 12) (N := some 3) (v := ?_) (a' := ?_) #[true, true, true, true, true, true, true, true, true, true, true, true, true] rfl rfl (any_of HT_.out (by kernel_rfl)) (fun _ _ _ h => h) (Or.inl ⟨by rfl, ?_⟩) ?_ ?_; rotate_left
  · intro w'; go_simp; all_goals (first | with_reducible rfl | (simp [Instr.field, go_sem]; rfl))
  rotate_left
  · simp only [Act.put, List.setIfInBounds_toArray, List.set_cons_zero, List.set_cons_succ, i64_w, i32_w]; rfl
  refine done_ (done_of HT_.out (by kernel_rfl)) ?_
  obtain ⟨Ao12, co12, eo12⟩ := Kd.R_slice HO135.out
  subst eo12
  try go_wp2
  replace HO135 := Aside0.mk (Kd.R_drew HO135.out)
  replace HB := Aside0.mk (below_drew1 HB.out)
  have p136 : 0 ≤ (0 : Int) := (by omega)
  have q136 : 0 < (l0.length : Int) := od_
  obtain ⟨ad136, A136_3, c136_3, A136_7, c136_7, e136, hx136_0, hx136_1, hx136_2, hx136_3, hx136_4, hx136_5, hx136_6, hx136_7, hl136_3, hi136_3, hl136_7, hi136_7⟩ := at_T37 HR0.out 0 p136 q136
  have hw136_7 := hx136_7
  (try simp only [Int.toNat_zero, Nat.zero_mul, Addr.add_zero'] at hw136_7)
  have hw136_6 := hx136_6
  (try simp only [Int.toNat_zero, Nat.zero_mul, Addr.add_zero'] at hw136_6)
  have hw136_5 := hx136_5
  (try simp only [Int.toNat_zero, Nat.zero_mul, Addr.add_zero'] at hw136_5)
  have hw136_4 := hx136_4
  (try simp only [Int.toNat_zero, Nat.zero_mul, Addr.add_zero'] at hw136_4)
  have hw136_3 := hx136_3
  (try simp only [Int.toNat_zero, Nat.zero_mul, Addr.add_zero'] at hw136_3)
  have hw136_2 := hx136_2
  (try simp only [Int.toNat_zero, Nat.zero_mul, Addr.add_zero'] at hw136_2)
  have hw136_1 := hx136_1
  (try simp only [Int.toNat_zero, Nat.zero_mul, Addr.add_zero'] at hw136_1)
  have hw136_0 := hx136_0
  (try simp only [Int.toNat_zero, Nat.zero_mul, Addr.add_zero'] at hw136_0)
  obtain rfl : ad132 = ad136 := (by injection e136)
  have qi136 : (0 < l0.length) = True := eq_true (by omega)
  (try simp only [Int.toNat_zero, Nat.zero_mul, Addr.add_zero'] at hx136_0 hx136_1 hx136_2 hx136_3 hx136_4 hx136_5 hx136_6 hx136_7)
  replace hx136_0 := ck_ HB.out hx136_0
  replace hx136_1 := ck_ HB.out hx136_1
  replace hx136_2 := ck_ HB.out hx136_2
  replace hx136_3 := ck_ HB.out hx136_3
  replace hx136_4 := ck_ HB.out hx136_4
  replace hx136_5 := ck_ HB.out hx136_5
  replace hx136_6 := ck_ HB.out hx136_6
  replace hx136_7 := ck_ HB.out hx136_7
  have HR136_3 := Aside0.mk hi136_3
  have HC136_3 := Aside0.mk hl136_3
  clear hi136_3 hl136_3
  have HR136_7 := Aside0.mk hi136_7
  have HC136_7 := Aside0.mk hl136_7
  clear hi136_7 hl136_7
  replace p136 := eq_true p136
  replace q136 := eq_true q136
  refine start_ (n := 22) (S := fun w' => w'.cell? ad132 = some (.int .i64 ((rd_T37 l0 0).f0)) ∧ w'.cell? ⟨ad132.block, ad132.off + 1, none⟩ = some (.string ((rd_T37 l0 0).f1)) ∧ w'.cell? ⟨ad132.block, ad132.off + 2, none⟩ = some (.string ((rd_T37 l0 0).f2)) ∧ w'.cell? ⟨ad132.block, ad132.off + 3, none⟩ = some (.slice A136_3 ((rd_T37 l0 0).f3).length c136_3) ∧ w'.cell? ⟨ad132.block, ad132.off + 4, none⟩ = some (.int .i64 ((rd_T37 l0 0).f4)) ∧ w'.cell? ⟨ad132.block, ad132.off + 5, none⟩ = some (.int .i64 ((rd_T37 l0 0).f5)) ∧ w'.cell? ⟨ad132.block, ad132.off + 6, none⟩ = some (.int .i64 ((rd_T37 l0 0).f6)) ∧ w'.cell? ⟨ad132.block, ad132.off + 7, none⟩ = some (.slice A136_7 ((rd_T37 l0 0).f7).length c136_7)) (ds := []) #[false, false, false, false, false, false, false, false, false, false, false, false, false, false, false, false, false, false, false, false, false, false] (by kernel_rfl) rfl rfl ⟨(ck_ HB.out hw136_0), (ck_ HB.out hw136_1), (ck_ HB.out hw136_2), (ck_ HB.out hw136_3), (ck_ HB.out hw136_4), (ck_ HB.out hw136_5), (ck_ HB.out hw136_6), (ck_ HB.out hw136_7)⟩ (fun hHeld => ?_); refine with_tabW spec_l9Pack.tab2 spec_l9Pack.bits2 (fun HT_ HW_ => ?_)
  generalize w10.drew = w13 at HO135 HB HR136_3 HR136_7 hx136_0 hx136_1 hx136_2 hx136_3 hx136_4 hx136_5 hx136_6 hx136_7 hHeld ⊢
  refine pure_ (i := 0) (N := some 17) (v := ?_) (a' := ?_) #[true, false, false, false, false, false, false, false, false, false, false, false, false, false, false, false, false, false, false, false, false, false] rfl rfl (any_of HT_.out (by kernel_rfl)) (fun _ _ _ h => h) (Or.inl ⟨by rfl, ?_⟩) ?_ ?_; rotate_left
  · intro w'; go_simp; all_goals (first | with_reducible rfl | (simp [Instr.field, go_sem]; rfl))
  rotate_left
  · simp only [Act.put, List.setIfInBounds_toArray, List.set_cons_zero, List.set_cons_succ, i64_w, i32_w]; rfl
  refine pure_ (i := 1) (N := some 18) (v := ?_) (a' := ?_) #[true, true, false, false, false, false, false, false, false, false, false, false, false, false, false, false, false, false, false, false, false, false] rfl rfl (any_of HT_.out (by kernel_rfl)) (fun _ _ _ h => h) (Or.inl ⟨by rfl, ?_⟩) ?_ ?_; rotate_left
  · intro w'; go_simp; all_goals (first | with_reducible rfl | (simp [Instr.field, go_sem]; rfl))
  rotate_left
  · simp only [Act.put, List.setIfInBounds_toArray, List.set_cons_zero, List.set_cons_succ, i64_w, i32_w]; rfl
  refine pure_ (i := 2) (N := some 19) (v := ?_) (a' := ?_) #[true, true, true, false, false, false, false, false, false, false, false, false, false, false, false, false, false, false, false, false, false, false] rfl rfl (any_of HT_.out (by kernel_rfl)) (fun _ _ _ h => h) (Or.inl ⟨by rfl, ?_⟩) ?_ ?_; rotate_left
  · intro w'; go_simp; all_goals (first | with_reducible rfl | (simp [Instr.field, go_sem]; rfl))
  rotate_left
  · simp only [Act.put, List.setIfInBounds_toArray, List.set_cons_zero, List.set_cons_succ, i64_w, i32_w]; rfl
  refine pure_ (i := 3) (N := some 20) (v := ?_) (a' := ?_) #[true, true, true, true, false, false, false, false, false, false, false, false, false, false, false, false, false, false, false, false, false, false] rfl rfl (any_of HT_.out (by kernel_rfl)) (fun _ _ _ h => h) (Or.inl ⟨by rfl, ?_⟩) ?_ ?_; rotate_left
  · intro w'; go_simp; all_goals (first | with_reducible rfl | (simp [Instr.field, go_sem]; rfl))
  rotate_left
  · simp only [Act.put, List.setIfInBounds_toArray, List.set_cons_zero, List.set_cons_succ, i64_w, i32_w]; rfl
  refine pure_ (i := 7) (N := some 24) (v := ?_) (a' := ?_) #[true, true, true, true, false, false, false, true, false, false, false, false, false, false, false, false, false, false, false, false, false, false] rfl rfl (any_of HT_.out (by kernel_rfl)) (fun _ _ _ h => h) (Or.inl ⟨by rfl, ?_⟩) ?_ ?_; rotate_left
  · intro w'; go_simp; all_goals (first | with_reducible rfl | (simp [Instr.field, go_sem]; rfl))
  rotate_left
  · simp only [Act.put, List.setIfInBounds_toArray, List.set_cons_zero, List.set_cons_succ, i64_w, i32_w]; rfl
  refine pure_ (i := 8) (N := some 25) (v := ?_) (a' := ?_) #[true, true, true, true, false, false, false, true, true, false, false, false, false, false, false, false, false, false, false, false, false, false] rfl rfl (any_of HT_.out (by kernel_rfl)) (fun _ _ _ h => h) (Or.inl ⟨by rfl, ?_⟩) ?_ ?_; rotate_left
  · intro w'; go_simp; all_goals (first | with_reducible rfl | (simp [Instr.field, go_sem]; rfl))
  rotate_left
  · simp only [Act.put, List.setIfInBounds_toArray, List.set_cons_zero, List.set_cons_succ, i64_w, i32_w]; rfl
  refine pure_ (i := 9) (N := some 26) (v := ?_) (a' := ?_) #[true, true, true, true, false, false, false, true, true, true, false, false, false, false, false, false, false, false, false, false, false, false] rfl rfl (any_of HT_.out (by kernel_rfl)) (fun _ _ _ h => h) (Or.inl ⟨by rfl, ?_⟩) ?_ ?_; rotate_left
  · intro w'; go_simp; all_goals (first | with_reducible rfl | (simp [Instr.field, go_sem]; rfl))
  rotate_left
  · simp only [Act.put, List.setIfInBounds_toArray, List.set_cons_zero, List.set_cons_succ, i64_w, i32_w]; rfl
  refine pure_ (i := 15) (N := some 32) (v := ?_) (a' := ?_) #[true, true, true, true, false, false, false, true, true, true, false, false, false, false, false, true, false, false, false, false, false, false] rfl rfl (any_of HT_.out (by kernel_rfl)) (fun _ _ _ h => h) (Or.inl ⟨by rfl, ?_⟩) ?_ ?_; rotate_left
  · intro w'; go_simp; all_goals (first | with_reducible rfl | (simp [Instr.field, go_sem]; rfl))
  rotate_left
  · simp only [Act.put, List.setIfInBounds_toArray, List.set_cons_zero, List.set_cons_succ, i64_w, i32_w]; rfl
  refine pure_ (i := 16) (N := some 33) (v := ?_) (a' := ?_) #[true, true, true, true, false, false, false, true, true, true, false, false, false, false, false, true, true, false, false, false, false, false] rfl rfl (any_of HT_.out (by kernel_rfl)) (fun _ _ _ h => h) (Or.inl ⟨by rfl, ?_⟩) ?_ ?_; rotate_left
  · intro w'; go_simp; all_goals (first | with_reducible rfl | (simp [Instr.field, go_sem]; rfl))
  rotate_left
  · simp only [Act.put, List.setIfInBounds_toArray, List.set_cons_zero, List.set_cons_succ, i64_w, i32_w]; rfl
  refine pure_ (i := 17) (N := some 34) (v := ?_) (a' := ?_) #[true, true, true, true, false, false, false, true, true, true, false, false, false, false, false, true, true, true, false, false, false, false] rfl rfl (any_of HT_.out (by kernel_rfl)) (fun _ _ _ h => h) (Or.inl ⟨by rfl, ?_⟩) ?_ ?_; rotate_left
  · intro w'; go_simp; all_goals (first | with_reducible rfl | (simp [Instr.field, go_sem]; rfl))
  rotate_left
  · simp only [Act.put, List.setIfInBounds_toArray, List.set_cons_zero, List.set_cons_succ, i64_w, i32_w]; rfl
  refine take_ (i := 4) (N := some 21) (v := ?_) (a' := ?_) #[true, true, true, true, true, false, false, true, true, true, false, false, false, false, false, true, true, true, false, false, false, false] rfl rfl (take_ofW HT_.out HW_.out (by kernel_rfl)) (fun _ _ _ h => h) (Or.inl ⟨by rfl, ?_⟩) hHeld ?_ ?_; rotate_left
  · rintro w' ⟨s0, s1, s2, s3, s4, s5, s6, s7⟩; go_simp; all_goals (first | with_reducible rfl | (simp [Instr.field, go_sem]; rfl))
  rotate_left
  · simp only [Act.put, List.setIfInBounds_toArray, List.set_cons_zero, List.set_cons_succ, i64_w, i32_w]; rfl
  refine take_ (i := 10) (N := some 27) (v := ?_) (a' := ?_) #[true, true, true, true, true, false, false, true, true, true, true, false, false, false, false, true, true, true, false, false, false, false] rfl rfl (take_ofW HT_.out HW_.out (by kernel_rfl)) (fun _ _ _ h => h) (Or.inl ⟨by rfl, ?_⟩) hHeld ?_ ?_; rotate_left
  · rintro w' ⟨s0, s1, s2, s3, s4, s5, s6, s7⟩; go_simp; all_goals (first | with_reducible rfl | (simp [Instr.field, go_sem]; rfl))
  rotate_left
  · simp only [Act.put, List.setIfInBounds_toArray, List.set_cons_zero, List.set_cons_succ, i64_w, i32_w]; rfl
  refine pure_ (i := 11) (N := some 28) (v := ?_) (a' := ?_) #[true, true, true, true, true, false, false, true, true, true, true, true, false, false, false, true, true, true, false, false, false, false] rfl rfl (any_of HT_.out (by kernel_rfl)) (fun _ _ _ h => h) (Or.inl ⟨by rfl, ?_⟩) ?_ ?_; rotate_left
  · intro w'; go_simp; all_goals (first | with_reducible rfl | (simp [Instr.field, go_sem]; rfl))
  rotate_left
  · simp only [Act.put, List.setIfInBounds_toArray, List.set_cons_zero, List.set_cons_succ, i64_w, i32_w]; rfl
  refine pure_ (i := 12) (N := some 29) (v := ?_) (a' := ?_) #[true, true, true, true, true, false, false, true, true, true, true, true, true, false, false, true, true, true, false, false, false, false] rfl rfl (any_of HT_.out (by kernel_rfl)) (fun _ _ _ h => h) (Or.inl ⟨by rfl, ?_⟩) ?_ ?_; rotate_left
  · intro w'; go_simp; all_goals (first | with_reducible rfl | (simp [Instr.field, go_sem]; rfl))
  rotate_left
  · simp only [Act.put, List.setIfInBounds_toArray, List.set_cons_zero, List.set_cons_succ, i64_w, i32_w]; rfl
  refine take_ (i := 18) (N := some 35) (v := ?_) (a' := ?_) #[true, true, true, true, true, false, false, true, true, true, true, true, true, false, false, true, true, true, true, false, false, false] rfl rfl (take_ofW HT_.out HW_.out (by kernel_rfl)) (fun _ _ _ h => h) (Or.inl ⟨by rfl, ?_⟩) hHeld ?_ ?_; rotate_left
  · rintro w' ⟨s0, s1, s2, s3, s4, s5, s6, s7⟩; go_simp; all_goals (first | with_reducible rfl | (simp [Instr.field, go_sem]; rfl))
  rotate_left
  · simp only [Act.put, List.setIfInBounds_toArray, List.set_cons_zero, List.set_cons_succ, i64_w, i32_w]; rfl
  refine join_ (σ := Value × Value × Value × Value × Value) 2 #[true, true, true, true, true, true, true, true, true, true, true, true, true, true, true, true, true, true, true, true, false, false] (fun s_ => [(22, s_.1), (23, s_.2.1), (30, s_.2.2.1), (31, s_.2.2.2.1), (36, s_.2.2.2.2)]) (fun s_ w' => (w'.cell? ad132 = some (.int .i64 ((rd_T37 l0 0).f0)) ∧ w'.cell? ⟨ad132.block, ad132.off + 1, none⟩ = some (.string ((rd_T37 l0 0).f1)) ∧ w'.cell? ⟨ad132.block, ad132.off + 2, none⟩ = some (.string ((rd_T37 l0 0).f2)) ∧ w'.cell? ⟨ad132.block, ad132.off + 3, none⟩ = some (.slice A136_3 ((rd_T37 l0 0).f3).length c136_3) ∧ w'.cell? ⟨ad132.block, ad132.off + 4, none⟩ = some (.int .i64 ((rd_T37 l0 0).f4)) ∧ w'.cell? ⟨ad132.block, ad132.off + 5, none⟩ = some (.int .i64 ((rd_T37 l0 0).f5)) ∧ w'.cell? ⟨ad132.block, ad132.off + 6, none⟩ = some (.int .i64 ((rd_T37 l0 0).f6)) ∧ w'.cell? ⟨ad132.block, ad132.off + 7, none⟩ = some (.slice A136_7 ((rd_T37 l0 0).f7).length c136_7)) ∧ (Kd.V (Kd.int .u8) 5 w' w.heap.size (fun k_ => some k_ ≠ (s_.2.2.1 : Value).ownBlock ∧ some k_ ≠ (s_.2.2.2.1 : Value).ownBlock) s_.1 y137) ∧ (Kd.R (Kd.int .u8) 5 w' w.heap.size (fun k_ => some k_ ≠ (s_.2.2.2.1 : Value).ownBlock) s_.2.2.1 y143) ∧ (Kd.R (Kd.int .u8) 5 w' w.heap.size (fun k_ => some k_ ≠ (s_.2.2.1 : Value).ownBlock) s_.2.2.2.1 y146) ∧ (Kd.V (Kd.int .u8) 5 w' w.heap.size (fun k_ => some k_ ≠ (s_.2.2.1 : Value).ownBlock ∧ some k_ ≠ (s_.2.2.2.1 : Value).ownBlock) s_.2.2.2.2 y149) ∧ (Below w.heap.size w w')) ?_ ?_
  rotate_left
  ·
   intro hJ5_6_13_14_19
   refine join_ (σ := Value × Value × Value × Value) 3 #[true, true, true, true, true, true, true, true, true, true, true, true, true, true, true, true, true, true, true, false, false, false] (fun s_ => [(22, s_.1), (23, s_.2.1), (30, s_.2.2.1), (31, s_.2.2.2)]) (fun s_ w' => (w'.cell? ad132 = some (.int .i64 ((rd_T37 l0 0).f0)) ∧ w'.cell? ⟨ad132.block, ad132.off + 1, none⟩ = some (.string ((rd_T37 l0 0).f1)) ∧ w'.cell? ⟨ad132.block, ad132.off + 2, none⟩ = some (.string ((rd_T37 l0 0).f2)) ∧ w'.cell? ⟨ad132.block, ad132.off + 3, none⟩ = some (.slice A136_3 ((rd_T37 l0 0).f3).length c136_3) ∧ w'.cell? ⟨ad132.block, ad132.off + 4, none⟩ = some (.int .i64 ((rd_T37 l0 0).f4)) ∧ w'.cell? ⟨ad132.block, ad132.off + 5, none⟩ = some (.int .i64 ((rd_T37 l0 0).f5)) ∧ w'.cell? ⟨ad132.block, ad132.off + 6, none⟩ = some (.int .i64 ((rd_T37 l0 0).f6)) ∧ w'.cell? ⟨ad132.block, ad132.off + 7, none⟩ = some (.slice A136_7 ((rd_T37 l0 0).f7).length c136_7)) ∧ (Kd.V (Kd.int .u8) 5 w' w.heap.size (fun k_ => some k_ ≠ (s_.2.2.1 : Value).ownBlock ∧ some k_ ≠ (s_.2.2.2 : Value).ownBlock) s_.1 y137) ∧ (Kd.R (Kd.int .u8) 5 w' w.heap.size (fun k_ => some k_ ≠ (s_.2.2.2 : Value).ownBlock) s_.2.2.1 y143) ∧ (Kd.R (Kd.int .u8) 5 w' w.heap.size (fun k_ => some k_ ≠ (s_.2.2.1 : Value).ownBlock) s_.2.2.2 y146) ∧ (Below w.heap.size w w')) ?_ ?_
   rotate_left
   ·
    intro hJ5_6_13_14
    refine join_ (σ := Value × Value × Value × Value) 3 #[true, true, true, true, true, true, true, true, true, true, true, true, true, true, false, true, true, true, true, true, false, false] (fun s_ => [(22, s_.1), (23, s_.2.1), (30, s_.2.2.1), (36, s_.2.2.2)]) (fun s_ w' => (w'.cell? ad132 = some (.int .i64 ((rd_T37 l0 0).f0)) ∧ w'.cell? ⟨ad132.block, ad132.off + 1, none⟩ = some (.string ((rd_T37 l0 0).f1)) ∧ w'.cell? ⟨ad132.block, ad132.off + 2, none⟩ = some (.string ((rd_T37 l0 0).f2)) ∧ w'.cell? ⟨ad132.block, ad132.off + 3, none⟩ = some (.slice A136_3 ((rd_T37 l0 0).f3).length c136_3) ∧ w'.cell? ⟨ad132.block, ad132.off + 4, none⟩ = some (.int .i64 ((rd_T37 l0 0).f4)) ∧ w'.cell? ⟨ad132.block, ad132.off + 5, none⟩ = some (.int .i64 ((rd_T37 l0 0).f5)) ∧ w'.cell? ⟨ad132.block, ad132.off + 6, none⟩ = some (.int .i64 ((rd_T37 l0 0).f6)) ∧ w'.cell? ⟨ad132.block, ad132.off + 7, none⟩ = some (.slice A136_7 ((rd_T37 l0 0).f7).length c136_7)) ∧ (Kd.V (Kd.int .u8) 5 w' w.heap.size (fun k_ => some k_ ≠ (s_.2.1 : Value).ownBlock ∧ some k_ ≠ (s_.2.2.1 : Value).ownBlock) s_.1 y137) ∧ (Kd.R (Kd.int .u8) 5 w' w.heap.size (fun k_ => some k_ ≠ (s_.2.2.1 : Value).ownBlock) s_.2.1 y140) ∧ (Kd.R (Kd.int .u8) 5 w' w.heap.size (fun k_ => some k_ ≠ (s_.2.1 : Value).ownBlock) s_.2.2.1 y143) ∧ (Kd.V (Kd.int .u8) 5 w' w.heap.size (fun k_ => some k_ ≠ (s_.2.1 : Value).ownBlock ∧ some k_ ≠ (s_.2.2.1 : Value).ownBlock) s_.2.2.2 y149) ∧ (Below w.heap.size w w')) ?_ ?_
    rotate_left
    ·
     intro hJ5_6_13_19
     refine join_ (σ := Value × Value × Value) 4 #[true, true, true, true, true, true, true, true, true, true, true, true, true, true, false, true, true, true, true, false, false, false] (fun s_ => [(22, s_.1), (23, s_.2.1), (30, s_.2.2)]) (fun s_ w' => (w'.cell? ad132 = some (.int .i64 ((rd_T37 l0 0).f0)) ∧ w'.cell? ⟨ad132.block, ad132.off + 1, none⟩ = some (.string ((rd_T37 l0 0).f1)) ∧ w'.cell? ⟨ad132.block, ad132.off + 2, none⟩ = some (.string ((rd_T37 l0 0).f2)) ∧ w'.cell? ⟨ad132.block, ad132.off + 3, none⟩ = some (.slice A136_3 ((rd_T37 l0 0).f3).length c136_3) ∧ w'.cell? ⟨ad132.block, ad132.off + 4, none⟩ = some (.int .i64 ((rd_T37 l0 0).f4)) ∧ w'.cell? ⟨ad132.block, ad132.off + 5, none⟩ = some (.int .i64 ((rd_T37 l0 0).f5)) ∧ w'.cell? ⟨ad132.block, ad132.off + 6, none⟩ = some (.int .i64 ((rd_T37 l0 0).f6)) ∧ w'.cell? ⟨ad132.block, ad132.off + 7, none⟩ = some (.slice A136_7 ((rd_T37 l0 0).f7).length c136_7)) ∧ (Kd.V (Kd.int .u8) 5 w' w.heap.size (fun k_ => some k_ ≠ (s_.2.1 : Value).ownBlock ∧ some k_ ≠ (s_.2.2 : Value).ownBlock) s_.1 y137) ∧ (Kd.R (Kd.int .u8) 5 w' w.heap.size (fun k_ => some k_ ≠ (s_.2.2 : Value).ownBlock) s_.2.1 y140) ∧ (Kd.R (Kd.int .u8) 5 w' w.heap.size (fun k_ => some k_ ≠ (s_.2.1 : Value).ownBlock) s_.2.2 y143) ∧ (Below w.heap.size w w')) ?_ ?_
     rotate_left
     ·
      intro hJ5_6_13
      refine join_ (σ := Value × Value × Value) 4 #[true, true, true, true, true, true, true, true, true, true, true, true, true, false, false, true, true, true, true, true, false, false] (fun s_ => [(22, s_.1), (23, s_.2.1), (36, s_.2.2)]) (fun s_ w' => (w'.cell? ad132 = some (.int .i64 ((rd_T37 l0 0).f0)) ∧ w'.cell? ⟨ad132.block, ad132.off + 1, none⟩ = some (.string ((rd_T37 l0 0).f1)) ∧ w'.cell? ⟨ad132.block, ad132.off + 2, none⟩ = some (.string ((rd_T37 l0 0).f2)) ∧ w'.cell? ⟨ad132.block, ad132.off + 3, none⟩ = some (.slice A136_3 ((rd_T37 l0 0).f3).length c136_3) ∧ w'.cell? ⟨ad132.block, ad132.off + 4, none⟩ = some (.int .i64 ((rd_T37 l0 0).f4)) ∧ w'.cell? ⟨ad132.block, ad132.off + 5, none⟩ = some (.int .i64 ((rd_T37 l0 0).f5)) ∧ w'.cell? ⟨ad132.block, ad132.off + 6, none⟩ = some (.int .i64 ((rd_T37 l0 0).f6)) ∧ w'.cell? ⟨ad132.block, ad132.off + 7, none⟩ = some (.slice A136_7 ((rd_T37 l0 0).f7).length c136_7)) ∧ (Kd.V (Kd.int .u8) 5 w' w.heap.size (fun k_ => some k_ ≠ (s_.2.1 : Value).ownBlock) s_.1 y137) ∧ (Kd.R (Kd.int .u8) 5 w' w.heap.size (fun _ => True) s_.2.1 y140) ∧ (Kd.V (Kd.int .u8) 5 w' w.heap.size (fun k_ => some k_ ≠ (s_.2.1 : Value).ownBlock) s_.2.2 y149) ∧ (Below w.heap.size w w')) ?_ ?_
      rotate_left
      ·
       intro hJ5_6_19
       refine join_ (σ := Value × Value × Value) 4 #[true, true, true, true, true, true, false, true, true, true, true, true, true, true, false, true, true, true, true, true, false, false] (fun s_ => [(22, s_.1), (30, s_.2.1), (36, s_.2.2)]) (fun s_ w' => (w'.cell? ad132 = some (.int .i64 ((rd_T37 l0 0).f0)) ∧ w'.cell? ⟨ad132.block, ad132.off + 1, none⟩ = some (.string ((rd_T37 l0 0).f1)) ∧ w'.cell? ⟨ad132.block, ad132.off + 2, none⟩ = some (.string ((rd_T37 l0 0).f2)) ∧ w'.cell? ⟨ad132.block, ad132.off + 3, none⟩ = some (.slice A136_3 ((rd_T37 l0 0).f3).length c136_3) ∧ w'.cell? ⟨ad132.block, ad132.off + 4, none⟩ = some (.int .i64 ((rd_T37 l0 0).f4)) ∧ w'.cell? ⟨ad132.block, ad132.off + 5, none⟩ = some (.int .i64 ((rd_T37 l0 0).f5)) ∧ w'.cell? ⟨ad132.block, ad132.off + 6, none⟩ = some (.int .i64 ((rd_T37 l0 0).f6)) ∧ w'.cell? ⟨ad132.block, ad132.off + 7, none⟩ = some (.slice A136_7 ((rd_T37 l0 0).f7).length c136_7)) ∧ (Kd.R (Kd.int .u8) 5 w' w.heap.size (fun k_ => some k_ ≠ (s_.2.1 : Value).ownBlock) (.slice Ao12 y133.length co12) y133) ∧ (Kd.V (Kd.int .u8) 5 w' w.heap.size (fun k_ => some k_ ≠ (.slice Ao12 y133.length co12 : Value).ownBlock ∧ some k_ ≠ (s_.2.1 : Value).ownBlock) s_.1 y137) ∧ (Kd.R (Kd.int .u8) 5 w' w.heap.size (fun k_ => some k_ ≠ (.slice Ao12 y133.length co12 : Value).ownBlock) s_.2.1 y143) ∧ (Kd.V (Kd.int .u8) 5 w' w.heap.size (fun k_ => some k_ ≠ (.slice Ao12 y133.length co12 : Value).ownBlock ∧ some k_ ≠ (s_.2.1 : Value).ownBlock) s_.2.2 y149) ∧ (Below w.heap.size w w')) ?_ ?_
       rotate_left
       ·
        intro hJ5_13_19
        refine join_ (σ := Value × Value) 5 #[true, true, true, true, true, true, true, true, true, true, true, true, true, false, false, true, true, true, true, false, false, false] (fun s_ => [(22, s_.1), (23, s_.2)]) (fun s_ w' => (w'.cell? ad132 = some (.int .i64 ((rd_T37 l0 0).f0)) ∧ w'.cell? ⟨ad132.block, ad132.off + 1, none⟩ = some (.string ((rd_T37 l0 0).f1)) ∧ w'.cell? ⟨ad132.block, ad132.off + 2, none⟩ = some (.string ((rd_T37 l0 0).f2)) ∧ w'.cell? ⟨ad132.block, ad132.off + 3, none⟩ = some (.slice A136_3 ((rd_T37 l0 0).f3).length c136_3) ∧ w'.cell? ⟨ad132.block, ad132.off + 4, none⟩ = some (.int .i64 ((rd_T37 l0 0).f4)) ∧ w'.cell? ⟨ad132.block, ad132.off + 5, none⟩ = some (.int .i64 ((rd_T37 l0 0).f5)) ∧ w'.cell? ⟨ad132.block, ad132.off + 6, none⟩ = some (.int .i64 ((rd_T37 l0 0).f6)) ∧ w'.cell? ⟨ad132.block, ad132.off + 7, none⟩ = some (.slice A136_7 ((rd_T37 l0 0).f7).length c136_7)) ∧ (Kd.V (Kd.int .u8) 5 w' w.heap.size (fun k_ => some k_ ≠ (s_.2 : Value).ownBlock) s_.1 y137) ∧ (Kd.R (Kd.int .u8) 5 w' w.heap.size (fun _ => True) s_.2 y140) ∧ (Below w.heap.size w w')) ?_ ?_
        rotate_left
        ·
         intro hJ5_6
         refine join_ (σ := Value × Value) 5 #[true, true, true, true, true, true, false, true, true, true, true, true, true, true, false, true, true, true, true, false, false, false] (fun s_ => [(22, s_.1), (30, s_.2)]) (fun s_ w' => (w'.cell? ad132 = some (.int .i64 ((rd_T37 l0 0).f0)) ∧ w'.cell? ⟨ad132.block, ad132.off + 1, none⟩ = some (.string ((rd_T37 l0 0).f1)) ∧ w'.cell? ⟨ad132.block, ad132.off + 2, none⟩ = some (.string ((rd_T37 l0 0).f2)) ∧ w'.cell? ⟨ad132.block, ad132.off + 3, none⟩ = some (.slice A136_3 ((rd_T37 l0 0).f3).length c136_3) ∧ w'.cell? ⟨ad132.block, ad132.off + 4, none⟩ = some (.int .i64 ((rd_T37 l0 0).f4)) ∧ w'.cell? ⟨ad132.block, ad132.off + 5, none⟩ = some (.int .i64 ((rd_T37 l0 0).f5)) ∧ w'.cell? ⟨ad132.block, ad132.off + 6, none⟩ = some (.int .i64 ((rd_T37 l0 0).f6)) ∧ w'.cell? ⟨ad132.block, ad132.off + 7, none⟩ = some (.slice A136_7 ((rd_T37 l0 0).f7).length c136_7)) ∧ (Kd.R (Kd.int .u8) 5 w' w.heap.size (fun k_ => some k_ ≠ (s_.2 : Value).ownBlock) (.slice Ao12 y133.length co12) y133) ∧ (Kd.V (Kd.int .u8) 5 w' w.heap.size (fun k_ => some k_ ≠ (.slice Ao12 y133.length co12 : Value).ownBlock ∧ some k_ ≠ (s_.2 : Value).ownBlock) s_.1 y137) ∧ (Kd.R (Kd.int .u8) 5 w' w.heap.size (fun k_ => some k_ ≠ (.slice Ao12 y133.length co12 : Value).ownBlock) s_.2 y143) ∧ (Below w.heap.size w w')) ?_ ?_
         rotate_left
         ·
          intro hJ5_13
          refine join_ (σ := Value × Value) 5 #[true, true, true, true, true, true, false, true, true, true, true, true, true, false, false, true, true, true, true, true, false, false] (fun s_ => [(22, s_.1), (36, s_.2)]) (fun s_ w' => (w'.cell? ad132 = some (.int .i64 ((rd_T37 l0 0).f0)) ∧ w'.cell? ⟨ad132.block, ad132.off + 1, none⟩ = some (.string ((rd_T37 l0 0).f1)) ∧ w'.cell? ⟨ad132.block, ad132.off + 2, none⟩ = some (.string ((rd_T37 l0 0).f2)) ∧ w'.cell? ⟨ad132.block, ad132.off + 3, none⟩ = some (.slice A136_3 ((rd_T37 l0 0).f3).length c136_3) ∧ w'.cell? ⟨ad132.block, ad132.off + 4, none⟩ = some (.int .i64 ((rd_T37 l0 0).f4)) ∧ w'.cell? ⟨ad132.block, ad132.off + 5, none⟩ = some (.int .i64 ((rd_T37 l0 0).f5)) ∧ w'.cell? ⟨ad132.block, ad132.off + 6, none⟩ = some (.int .i64 ((rd_T37 l0 0).f6)) ∧ w'.cell? ⟨ad132.block, ad132.off + 7, none⟩ = some (.slice A136_7 ((rd_T37 l0 0).f7).length c136_7)) ∧ (Kd.R (Kd.int .u8) 5 w' w.heap.size (fun _ => True) (.slice Ao12 y133.length co12) y133) ∧ (Kd.V (Kd.int .u8) 5 w' w.heap.size (fun k_ => some k_ ≠ (.slice Ao12 y133.length co12 : Value).ownBlock) s_.1 y137) ∧ (Kd.V (Kd.int .u8) 5 w' w.heap.size (fun k_ => some k_ ≠ (.slice Ao12 y133.length co12 : Value).ownBlock) s_.2 y149) ∧ (Below w.heap.size w w')) ?_ ?_
          rotate_left
          ·
           intro hJ5_19
           refine join_ (σ := Value × Value) 5 #[true, true, true, true, true, false, false, true, true, true, true, true, true, true, false, true, true, true, true, true, false, false] (fun s_ => [(30, s_.1), (36, s_.2)]) (fun s_ w' => (w'.cell? ad132 = some (.int .i64 ((rd_T37 l0 0).f0)) ∧ w'.cell? ⟨ad132.block, ad132.off + 1, none⟩ = some (.string ((rd_T37 l0 0).f1)) ∧ w'.cell? ⟨ad132.block, ad132.off + 2, none⟩ = some (.string ((rd_T37 l0 0).f2)) ∧ w'.cell? ⟨ad132.block, ad132.off + 3, none⟩ = some (.slice A136_3 ((rd_T37 l0 0).f3).length c136_3) ∧ w'.cell? ⟨ad132.block, ad132.off + 4, none⟩ = some (.int .i64 ((rd_T37 l0 0).f4)) ∧ w'.cell? ⟨ad132.block, ad132.off + 5, none⟩ = some (.int .i64 ((rd_T37 l0 0).f5)) ∧ w'.cell? ⟨ad132.block, ad132.off + 6, none⟩ = some (.int .i64 ((rd_T37 l0 0).f6)) ∧ w'.cell? ⟨ad132.block, ad132.off + 7, none⟩ = some (.slice A136_7 ((rd_T37 l0 0).f7).length c136_7)) ∧ (Kd.R (Kd.int .u8) 5 w' w.heap.size (fun k_ => some k_ ≠ (s_.1 : Value).ownBlock) (.slice Ao12 y133.length co12) y133) ∧ (Kd.R (Kd.int .u8) 5 w' w.heap.size (fun k_ => some k_ ≠ (.slice Ao12 y133.length co12 : Value).ownBlock) s_.1 y143) ∧ (Kd.V (Kd.int .u8) 5 w' w.heap.size (fun k_ => some k_ ≠ (.slice Ao12 y133.length co12 : Value).ownBlock ∧ some k_ ≠ (s_.1 : Value).ownBlock) s_.2 y149) ∧ (Below w.heap.size w w')) ?_ ?_
           rotate_left
           ·
            intro hJ13_19
            refine join_ (σ := Value) 6 #[true, true, true, true, true, true, false, true, true, true, true, true, true, false, false, true, true, true, true, false, false, false] (fun s_ => [(22, s_)]) (fun s_ w' => (w'.cell? ad132 = some (.int .i64 ((rd_T37 l0 0).f0)) ∧ w'.cell? ⟨ad132.block, ad132.off + 1, none⟩ = some (.string ((rd_T37 l0 0).f1)) ∧ w'.cell? ⟨ad132.block, ad132.off + 2, none⟩ = some (.string ((rd_T37 l0 0).f2)) ∧ w'.cell? ⟨ad132.block, ad132.off + 3, none⟩ = some (.slice A136_3 ((rd_T37 l0 0).f3).length c136_3) ∧ w'.cell? ⟨ad132.block, ad132.off + 4, none⟩ = some (.int .i64 ((rd_T37 l0 0).f4)) ∧ w'.cell? ⟨ad132.block, ad132.off + 5, none⟩ = some (.int .i64 ((rd_T37 l0 0).f5)) ∧ w'.cell? ⟨ad132.block, ad132.off + 6, none⟩ = some (.int .i64 ((rd_T37 l0 0).f6)) ∧ w'.cell? ⟨ad132.block, ad132.off + 7, none⟩ = some (.slice A136_7 ((rd_T37 l0 0).f7).length c136_7)) ∧ (Kd.R (Kd.int .u8) 5 w' w.heap.size (fun _ => True) (.slice Ao12 y133.length co12) y133) ∧ (Kd.V (Kd.int .u8) 5 w' w.heap.size (fun k_ => some k_ ≠ (.slice Ao12 y133.length co12 : Value).ownBlock) s_ y137) ∧ (Below w.heap.size w w')) ?_ ?_
            rotate_left
            ·
             intro hJ5
             refine join_ (σ := Value) 6 #[true, true, true, true, true, false, false, true, true, true, true, true, true, true, false, true, true, true, true, false, false, false] (fun s_ => [(30, s_)]) (fun s_ w' => (w'.cell? ad132 = some (.int .i64 ((rd_T37 l0 0).f0)) ∧ w'.cell? ⟨ad132.block, ad132.off + 1, none⟩ = some (.string ((rd_T37 l0 0).f1)) ∧ w'.cell? ⟨ad132.block, ad132.off + 2, none⟩ = some (.string ((rd_T37 l0 0).f2)) ∧ w'.cell? ⟨ad132.block, ad132.off + 3, none⟩ = some (.slice A136_3 ((rd_T37 l0 0).f3).length c136_3) ∧ w'.cell? ⟨ad132.block, ad132.off + 4, none⟩ = some (.int .i64 ((rd_T37 l0 0).f4)) ∧ w'.cell? ⟨ad132.block, ad132.off + 5, none⟩ = some (.int .i64 ((rd_T37 l0 0).f5)) ∧ w'.cell? ⟨ad132.block, ad132.off + 6, none⟩ = some (.int .i64 ((rd_T37 l0 0).f6)) ∧ w'.cell? ⟨ad132.block, ad132.off + 7, none⟩ = some (.slice A136_7 ((rd_T37 l0 0).f7).length c136_7)) ∧ (Kd.R (Kd.int .u8) 5 w' w.heap.size (fun k_ => some k_ ≠ (s_ : Value).ownBlock) (.slice Ao12 y133.length co12) y133) ∧ (Kd.R (Kd.int .u8) 5 w' w.heap.size (fun k_ => some k_ ≠ (.slice Ao12 y133.length co12 : Value).ownBlock) s_ y143) ∧ (Below w.heap.size w w')) ?_ ?_
             rotate_left
             ·
              intro hJ13
              refine join_ (σ := Value) 6 #[true, true, true, true, true, false, false, true, true, true, true, true, true, false, false, true, true, true, true, true, false, false] (fun s_ => [(36, s_)]) (fun s_ w' => (w'.cell? ad132 = some (.int .i64 ((rd_T37 l0 0).f0)) ∧ w'.cell? ⟨ad132.block, ad132.off + 1, none⟩ = some (.string ((rd_T37 l0 0).f1)) ∧ w'.cell? ⟨ad132.block, ad132.off + 2, none⟩ = some (.string ((rd_T37 l0 0).f2)) ∧ w'.cell? ⟨ad132.block, ad132.off + 3, none⟩ = some (.slice A136_3 ((rd_T37 l0 0).f3).length c136_3) ∧ w'.cell? ⟨ad132.block, ad132.off + 4, none⟩ = some (.int .i64 ((rd_T37 l0 0).f4)) ∧ w'.cell? ⟨ad132.block, ad132.off + 5, none⟩ = some (.int .i64 ((rd_T37 l0 0).f5)) ∧ w'.cell? ⟨ad132.block, ad132.off + 6, none⟩ = some (.int .i64 ((rd_T37 l0 0).f6)) ∧ w'.cell? ⟨ad132.block, ad132.off + 7, none⟩ = some (.slice A136_7 ((rd_T37 l0 0).f7).length c136_7)) ∧ (Kd.R (Kd.int .u8) 5 w' w.heap.size (fun _ => True) (.slice Ao12 y133.length co12) y133) ∧ (Kd.V (Kd.int .u8) 5 w' w.heap.size (fun k_ => some k_ ≠ (.slice Ao12 y133.length co12 : Value).ownBlock) s_ y149) ∧ (Below w.heap.size w w')) ?_ ?_
              rotate_left
              ·
               intro hJ19
               refine three_ (i := 5) (j := 13) (k := 19) (Ni := some 22) (Nj := some 30) (Nk := some 36) #[true, true, true, true, true, true, false, true, true, true, true, true, true, false, false, true, true, true, true, false, false, false] #[true, true, true, true, true, false, false, true, true, true, true, true, true, true, false, true, true, true, true, false, false, false] #[true, true, true, true, true, false, false, true, true, true, true, true, true, false, false, true, true, true, true, true, false, false] rfl rfl rfl rfl rfl rfl (three_of HT_.out (by kernel_rfl)) (by decide) (by decide) (by decide) (fun K hK => ?_) (fun K hK => ?_) (fun K hK => ?_)
               ·
                skip
                refine Kd.V_conv_step _ 5 (by rfl) (N' := 22) rfl 9 24 _ rfl Try.underlying9 Try.underlying24 Try.underlying5 ((rd_T37 l0 0).f1) rfl (by have := LMc3.out; omega) (Below.refl _ _) (Nat.le_refl _) ?_
                intro v138 w14 ho15 hb hg_ hnew_
                clear hg_ hnew_
                (first | rw [← Ny137.out] at ho15 | (simp only [Int.reduceToNat] at ho15; rw [← Ny137.out] at ho15))
                have n0_ := Aside0.mk (Kd.R_below (R_up HO135.out) hb)
                have n1_ := Aside0.mk (Kd.V_lower (Kd.V_mono (ok' := fun k_ => some k_ ≠ (.slice Ao12 y133.length co12 : Value).ownBlock) ho15 (fun k_ hk_ => (Kd.fresh' (Kd.R_lt (R_up HO135.out)) k_ hk_))) (below_size (HB_up HB.out)))
                have n2_ := Aside0.mk (below_step (HB_up HB.out) hb)
                clear HO135
                clear HB
                have HO135 := n0_
                have HO139 := n1_
                have HB := n2_
                clear n0_ n1_ n2_
                clear hb ho15
                refine hK.out _ _ ⟨(ck_ HB.out hw136_0), (ck_ HB.out hw136_1), (ck_ HB.out hw136_2), (ck_ HB.out hw136_3), (ck_ HB.out hw136_4), (ck_ HB.out hw136_5), (ck_ HB.out hw136_6), (ck_ HB.out hw136_7)⟩ (fun hHeld => ?_)
                clear hK K
                refine norm_ (a' := ?_) ?_ ?_
                rotate_left
                · show Act.put _ (some 22) _ = _
                  simp only [Act.put, List.setIfInBounds_toArray, List.set_cons_zero, List.set_cons_succ, i64_w, i32_w]
                  rfl
                exact norm_ (by first | (simp only [putAll, Act.put, List.setIfInBounds_toArray, List.set_cons_zero, List.set_cons_succ]; done) | (simp only [putAll, Act.put, List.setIfInBounds_toArray, List.set_cons_zero, List.set_cons_succ]; rfl)) (hJ5 (v138) _ ⟨hHeld, (R_up HO135.out), (V_up HO139.out), (HB_up HB.out)⟩)
               ·
                skip
                refine Kd.R_lit_step (Kd.int .u8) _ 5 ?hg (N := 30) ?hd (xs := ([((((rd_T37 l0 0).f2).size : Int)) % 256] : List Int)) (inner := [.int .u8 (((((rd_T37 l0 0).f2).size : Int)) % 256)]) (ok := fun _ => True) (okp := fun _ => True) ?hr ?hp (fun _ hk => hk) trivial (Below.refl _ _) (Nat.le_refl _) (by simp) ?_; (case hd => rfl); (case hg => rfl); (case hr => first | (go_simp; done) | (go_simp; rfl)); (case hp => exact (Reps.one (show Kd.M (Kd.int .u8) _ _ _ (((((rd_T37 l0 0).f2).size : Int)) % 256) [.int .u8 (((((rd_T37 l0 0).f2).size : Int)) % 256)] from rfl) (Reps.none _ _)))
                intro v144 w14 ho15 hb hg_ hnew_
                clear hg_ hnew_
                (first | rw [← Ny143.out] at ho15 | (simp only [Int.reduceToNat] at ho15; rw [← Ny143.out] at ho15))
                have n0_ := Aside0.mk (Kd.R_elder' (R_up HO135.out) (Kd.R_base ho15) hb)
                have n1_ := Aside0.mk (Kd.R_lower (Kd.R_new' ho15 (Kd.R_lt (R_up HO135.out))) (below_size (HB_up HB.out)))
                have n2_ := Aside0.mk (below_step (HB_up HB.out) hb)
                clear HO135
                clear HB
                have HO135 := n0_
                have HO145 := n1_
                have HB := n2_
                clear n0_ n1_ n2_
                clear hb ho15
                refine hK.out _ _ ⟨(ck_ HB.out hw136_0), (ck_ HB.out hw136_1), (ck_ HB.out hw136_2), (ck_ HB.out hw136_3), (ck_ HB.out hw136_4), (ck_ HB.out hw136_5), (ck_ HB.out hw136_6), (ck_ HB.out hw136_7)⟩ (fun hHeld => ?_)
                clear hK K
                refine norm_ (a' := ?_) ?_ ?_
                rotate_left
                · show Act.put _ (some 30) _ = _
                  simp only [Act.put, List.setIfInBounds_toArray, List.set_cons_zero, List.set_cons_succ, i64_w, i32_w]
                  rfl
                exact norm_ (by first | (simp only [putAll, Act.put, List.setIfInBounds_toArray, List.set_cons_zero, List.set_cons_succ]; done) | (simp only [putAll, Act.put, List.setIfInBounds_toArray, List.set_cons_zero, List.set_cons_succ]; rfl)) (hJ13 (v144) _ ⟨hHeld, (by (with_reducible repeat (first | apply Kd.R_alloc | apply Kd.R_drewN | apply Kd.R_drew)); exact Kd.R_mono HO135.out (fun _ hk => hk.2)), (by (with_reducible repeat (first | apply Kd.R_alloc | apply Kd.R_drewN | apply Kd.R_drew)); exact Kd.R_mono HO145.out (fun _ hk => hk.2)), (HB_up HB.out)⟩)
               ·
                skip
                refine Kd.V_conv_step _ 5 (by rfl) (N' := 36) rfl 9 24 _ rfl Try.underlying9 Try.underlying24 Try.underlying5 ((rd_T37 l0 0).f2) rfl (by have := LMc6.out; omega) (Below.refl _ _) (Nat.le_refl _) ?_
                intro v150 w14 ho15 hb hg_ hnew_
                clear hg_ hnew_
                (first | rw [← Ny149.out] at ho15 | (simp only [Int.reduceToNat] at ho15; rw [← Ny149.out] at ho15))
                have n0_ := Aside0.mk (Kd.R_below (R_up HO135.out) hb)
                have n1_ := Aside0.mk (Kd.V_lower (Kd.V_mono (ok' := fun k_ => some k_ ≠ (.slice Ao12 y133.length co12 : Value).ownBlock) ho15 (fun k_ hk_ => (Kd.fresh' (Kd.R_lt (R_up HO135.out)) k_ hk_))) (below_size (HB_up HB.out)))
                have n2_ := Aside0.mk (below_step (HB_up HB.out) hb)
                clear HO135
                clear HB
                have HO135 := n0_
                have HO151 := n1_
                have HB := n2_
                clear n0_ n1_ n2_
                clear hb ho15
                refine hK.out _ _ ⟨(ck_ HB.out hw136_0), (ck_ HB.out hw136_1), (ck_ HB.out hw136_2), (ck_ HB.out hw136_3), (ck_ HB.out hw136_4), (ck_ HB.out hw136_5), (ck_ HB.out hw136_6), (ck_ HB.out hw136_7)⟩ (fun hHeld => ?_)
                clear hK K
                refine norm_ (a' := ?_) ?_ ?_
                rotate_left
                · show Act.put _ (some 36) _ = _
                  simp only [Act.put, List.setIfInBounds_toArray, List.set_cons_zero, List.set_cons_succ, i64_w, i32_w]
                  rfl
                exact norm_ (by first | (simp only [putAll, Act.put, List.setIfInBounds_toArray, List.set_cons_zero, List.set_cons_succ]; done) | (simp only [putAll, Act.put, List.setIfInBounds_toArray, List.set_cons_zero, List.set_cons_succ]; rfl)) (hJ19 (v150) _ ⟨hHeld, (R_up HO135.out), (V_up HO151.out), (HB_up HB.out)⟩)
              ·
               skip
               rintro v150 w16 ⟨hS_, h0_, h1_, h2_⟩
               have n0_ : Aside0 (Kd.R (Kd.int .u8) 5 w16 w.heap.size (fun _ => True) (.slice Ao12 y133.length co12) y133) := ⟨h0_⟩
               have n1_ : Aside0 (Kd.V (Kd.int .u8) 5 w16 w.heap.size (fun k_ => some k_ ≠ (.slice Ao12 y133.length co12 : Value).ownBlock) v150 y149) := ⟨h1_⟩
               have n2_ : Aside0 (Below w.heap.size w w16) := ⟨h2_⟩
               clear HO135
               clear HB
               clear h0_ h1_ h2_
               have HO135 := n0_
               have HO151 := n1_
               have HB := n2_
               clear n0_ n1_ n2_
               have hHeld : w16.cell? ad132 = some (.int .i64 ((rd_T37 l0 0).f0)) ∧ w16.cell? ⟨ad132.block, ad132.off + 1, none⟩ = some (.string ((rd_T37 l0 0).f1)) ∧ w16.cell? ⟨ad132.block, ad132.off + 2, none⟩ = some (.string ((rd_T37 l0 0).f2)) ∧ w16.cell? ⟨ad132.block, ad132.off + 3, none⟩ = some (.slice A136_3 ((rd_T37 l0 0).f3).length c136_3) ∧ w16.cell? ⟨ad132.block, ad132.off + 4, none⟩ = some (.int .i64 ((rd_T37 l0 0).f4)) ∧ w16.cell? ⟨ad132.block, ad132.off + 5, none⟩ = some (.int .i64 ((rd_T37 l0 0).f5)) ∧ w16.cell? ⟨ad132.block, ad132.off + 6, none⟩ = some (.int .i64 ((rd_T37 l0 0).f6)) ∧ w16.cell? ⟨ad132.block, ad132.off + 7, none⟩ = some (.slice A136_7 ((rd_T37 l0 0).f7).length c136_7) := hS_
               refine norm_ (a' := ?_) ?_ ?_
               rotate_left
               · simp only [putAll, Act.put, List.setIfInBounds_toArray, List.set_cons_zero, List.set_cons_succ]
                 rfl
               refine two_ (i := 5) (j := 13) (Ni := some 22) (Nj := some 30) #[true, true, true, true, true, true, false, true, true, true, true, true, true, false, false, true, true, true, true, true, false, false] #[true, true, true, true, true, false, false, true, true, true, true, true, true, true, false, true, true, true, true, true, false, false] rfl rfl rfl rfl (two_of HT_.out (by kernel_rfl)) (by decide) (by decide) (fun K hK => ?_) (fun K hK => ?_)
               ·
                skip
                refine Kd.V_conv_step _ 5 (by rfl) (N' := 22) rfl 9 24 _ rfl Try.underlying9 Try.underlying24 Try.underlying5 ((rd_T37 l0 0).f1) rfl (by have := LMc3.out; omega) (Below.refl _ _) (Nat.le_refl _) ?_
                intro v138 w17 ho18 hb hg_ hnew_
                clear hg_ hnew_
                (first | rw [← Ny137.out] at ho18 | (simp only [Int.reduceToNat] at ho18; rw [← Ny137.out] at ho18))
                have n0_ := Aside0.mk (Kd.R_below (R_up HO135.out) hb)
                have n1_ := Aside0.mk (Kd.V_below (V_up HO151.out) hb)
                have n2_ := Aside0.mk (Kd.V_lower (Kd.V_mono (ok' := fun k_ => some k_ ≠ (.slice Ao12 y133.length co12 : Value).ownBlock) ho18 (fun k_ hk_ => (Kd.fresh' (Kd.R_lt (R_up HO135.out)) k_ hk_))) (below_size (HB_up HB.out)))
                have n3_ := Aside0.mk (below_step (HB_up HB.out) hb)
                clear HO135
                clear HO151
                clear HB
                have HO135 := n0_
                have HO151 := n1_
                have HO139 := n2_
                have HB := n3_
                clear n0_ n1_ n2_ n3_
                clear hb ho18
                refine hK.out _ _ ⟨(ck_ HB.out hw136_0), (ck_ HB.out hw136_1), (ck_ HB.out hw136_2), (ck_ HB.out hw136_3), (ck_ HB.out hw136_4), (ck_ HB.out hw136_5), (ck_ HB.out hw136_6), (ck_ HB.out hw136_7)⟩ (fun hHeld => ?_)
                clear hK K
                refine norm_ (a' := ?_) ?_ ?_
                rotate_left
                · show Act.put _ (some 22) _ = _
                  simp only [Act.put, List.setIfInBounds_toArray, List.set_cons_zero, List.set_cons_succ, i64_w, i32_w]
                  rfl
                exact norm_ (by first | (simp only [putAll, Act.put, List.setIfInBounds_toArray, List.set_cons_zero, List.set_cons_succ]; done) | (simp only [putAll, Act.put, List.setIfInBounds_toArray, List.set_cons_zero, List.set_cons_succ]; rfl)) (hJ5_19 (v138, v150) _ ⟨hHeld, (R_up HO135.out), (V_up HO139.out), (V_up HO151.out), (HB_up HB.out)⟩)
               ·
                skip
                refine Kd.R_lit_step (Kd.int .u8) _ 5 ?hg (N := 30) ?hd (xs := ([((((rd_T37 l0 0).f2).size : Int)) % 256] : List Int)) (inner := [.int .u8 (((((rd_T37 l0 0).f2).size : Int)) % 256)]) (ok := fun _ => True) (okp := fun _ => True) ?hr ?hp (fun _ hk => hk) trivial (Below.refl _ _) (Nat.le_refl _) (by simp) ?_; (case hd => rfl); (case hg => rfl); (case hr => first | (go_simp; done) | (go_simp; rfl)); (case hp => exact (Reps.one (show Kd.M (Kd.int .u8) _ _ _ (((((rd_T37 l0 0).f2).size : Int)) % 256) [.int .u8 (((((rd_T37 l0 0).f2).size : Int)) % 256)] from rfl) (Reps.none _ _)))
                intro v144 w17 ho18 hb hg_ hnew_
                clear hg_ hnew_
                (first | rw [← Ny143.out] at ho18 | (simp only [Int.reduceToNat] at ho18; rw [← Ny143.out] at ho18))
                have n0_ := Aside0.mk (Kd.R_elder' (R_up HO135.out) (Kd.R_base ho18) hb)
                have n1_ := Aside0.mk (Kd.V_elder' (V_up HO151.out) (Kd.R_base ho18) hb)
                have n2_ := Aside0.mk (Kd.R_lower (Kd.R_new' ho18 (Kd.R_lt (R_up HO135.out))) (below_size (HB_up HB.out)))
                have n3_ := Aside0.mk (below_step (HB_up HB.out) hb)
                clear HO135
                clear HO151
                clear HB
                have HO135 := n0_
                have HO151 := n1_
                have HO145 := n2_
                have HB := n3_
                clear n0_ n1_ n2_ n3_
                clear hb ho18
                refine hK.out _ _ ⟨(ck_ HB.out hw136_0), (ck_ HB.out hw136_1), (ck_ HB.out hw136_2), (ck_ HB.out hw136_3), (ck_ HB.out hw136_4), (ck_ HB.out hw136_5), (ck_ HB.out hw136_6), (ck_ HB.out hw136_7)⟩ (fun hHeld => ?_)
                clear hK K
                refine norm_ (a' := ?_) ?_ ?_
                rotate_left
                · show Act.put _ (some 30) _ = _
                  simp only [Act.put, List.setIfInBounds_toArray, List.set_cons_zero, List.set_cons_succ, i64_w, i32_w]
                  rfl
                exact norm_ (by first | (simp only [putAll, Act.put, List.setIfInBounds_toArray, List.set_cons_zero, List.set_cons_succ]; done) | (simp only [putAll, Act.put, List.setIfInBounds_toArray, List.set_cons_zero, List.set_cons_succ]; rfl)) (hJ13_19 (v144, v150) _ ⟨hHeld, (by (with_reducible repeat (first | apply Kd.R_alloc | apply Kd.R_drewN | apply Kd.R_drew)); exact Kd.R_mono HO135.out (fun _ hk => hk.2)), (by (with_reducible repeat (first | apply Kd.R_alloc | apply Kd.R_drewN | apply Kd.R_drew)); exact Kd.R_mono HO145.out (fun _ hk => hk.2)), (V_up HO151.out), (HB_up HB.out)⟩)
             ·
              skip
              rintro v144 w16 ⟨hS_, h0_, h1_, h2_⟩
              have n0_ : Aside0 (Kd.R (Kd.int .u8) 5 w16 w.heap.size (fun k_ => some k_ ≠ (v144 : Value).ownBlock) (.slice Ao12 y133.length co12) y133) := ⟨h0_⟩
              have n1_ : Aside0 (Kd.R (Kd.int .u8) 5 w16 w.heap.size (fun k_ => some k_ ≠ (.slice Ao12 y133.length co12 : Value).ownBlock) v144 y143) := ⟨h1_⟩
              have n2_ : Aside0 (Below w.heap.size w w16) := ⟨h2_⟩
              clear HO135
              clear HB
              clear h0_ h1_ h2_
              have HO135 := n0_
              have HO145 := n1_
              have HB := n2_
              clear n0_ n1_ n2_
              have hHeld : w16.cell? ad132 = some (.int .i64 ((rd_T37 l0 0).f0)) ∧ w16.cell? ⟨ad132.block, ad132.off + 1, none⟩ = some (.string ((rd_T37 l0 0).f1)) ∧ w16.cell? ⟨ad132.block, ad132.off + 2, none⟩ = some (.string ((rd_T37 l0 0).f2)) ∧ w16.cell? ⟨ad132.block, ad132.off + 3, none⟩ = some (.slice A136_3 ((rd_T37 l0 0).f3).length c136_3) ∧ w16.cell? ⟨ad132.block, ad132.off + 4, none⟩ = some (.int .i64 ((rd_T37 l0 0).f4)) ∧ w16.cell? ⟨ad132.block, ad132.off + 5, none⟩ = some (.int .i64 ((rd_T37 l0 0).f5)) ∧ w16.cell? ⟨ad132.block, ad132.off + 6, none⟩ = some (.int .i64 ((rd_T37 l0 0).f6)) ∧ w16.cell? ⟨ad132.block, ad132.off + 7, none⟩ = some (.slice A136_7 ((rd_T37 l0 0).f7).length c136_7) := hS_
              refine norm_ (a' := ?_) ?_ ?_
              rotate_left
              · simp only [putAll, Act.put, List.setIfInBounds_toArray, List.set_cons_zero, List.set_cons_succ]
                rfl
              refine two_ (i := 5) (j := 19) (Ni := some 22) (Nj := some 36) #[true, true, true, true, true, true, false, true, true, true, true, true, true, true, false, true, true, true, true, false, false, false] #[true, true, true, true, true, false, false, true, true, true, true, true, true, true, false, true, true, true, true, true, false, false] rfl rfl rfl rfl (two_of HT_.out (by kernel_rfl)) (by decide) (by decide) (fun K hK => ?_) (fun K hK => ?_)
              ·
               skip
               refine Kd.V_conv_step _ 5 (by rfl) (N' := 22) rfl 9 24 _ rfl Try.underlying9 Try.underlying24 Try.underlying5 ((rd_T37 l0 0).f1) rfl (by have := LMc3.out; omega) (Below.refl _ _) (Nat.le_refl _) ?_
               intro v138 w17 ho18 hb hg_ hnew_
               clear hg_ hnew_
               (first | rw [← Ny137.out] at ho18 | (simp only [Int.reduceToNat] at ho18; rw [← Ny137.out] at ho18))
               have n0_ := Aside0.mk (Kd.R_below (R_up HO135.out) hb)
               have n1_ := Aside0.mk (Kd.R_below (R_up HO145.out) hb)
               have n2_ := Aside0.mk (Kd.V_lower (Kd.V_mono (ok' := fun k_ => some k_ ≠ (.slice Ao12 y133.length co12 : Value).ownBlock ∧ some k_ ≠ (v144 : Value).ownBlock) ho18 (fun k_ hk_ => ⟨(Kd.fresh' (Kd.R_lt (R_up HO135.out)) k_ hk_), (Kd.fresh' (Kd.R_lt (R_up HO145.out)) k_ hk_)⟩)) (below_size (HB_up HB.out)))
               have n3_ := Aside0.mk (below_step (HB_up HB.out) hb)
               clear HO135
               clear HO145
               clear HB
               have HO135 := n0_
               have HO145 := n1_
               have HO139 := n2_
               have HB := n3_
               clear n0_ n1_ n2_ n3_
               clear hb ho18
               refine hK.out _ _ ⟨(ck_ HB.out hw136_0), (ck_ HB.out hw136_1), (ck_ HB.out hw136_2), (ck_ HB.out hw136_3), (ck_ HB.out hw136_4), (ck_ HB.out hw136_5), (ck_ HB.out hw136_6), (ck_ HB.out hw136_7)⟩ (fun hHeld => ?_)
               clear hK K
               refine norm_ (a' := ?_) ?_ ?_
               rotate_left
               · show Act.put _ (some 22) _ = _
                 simp only [Act.put, List.setIfInBounds_toArray, List.set_cons_zero, List.set_cons_succ, i64_w, i32_w]
                 rfl
               exact norm_ (by first | (simp only [putAll, Act.put, List.setIfInBounds_toArray, List.set_cons_zero, List.set_cons_succ]; done) | (simp only [putAll, Act.put, List.setIfInBounds_toArray, List.set_cons_zero, List.set_cons_succ]; rfl)) (hJ5_13 (v138, v144) _ ⟨hHeld, (R_up HO135.out), (V_up HO139.out), (R_up HO145.out), (HB_up HB.out)⟩)
              ·
               skip
               refine Kd.V_conv_step _ 5 (by rfl) (N' := 36) rfl 9 24 _ rfl Try.underlying9 Try.underlying24 Try.underlying5 ((rd_T37 l0 0).f2) rfl (by have := LMc6.out; omega) (Below.refl _ _) (Nat.le_refl _) ?_
               intro v150 w17 ho18 hb hg_ hnew_
               clear hg_ hnew_
               (first | rw [← Ny149.out] at ho18 | (simp only [Int.reduceToNat] at ho18; rw [← Ny149.out] at ho18))
               have n0_ := Aside0.mk (Kd.R_below (R_up HO135.out) hb)
               have n1_ := Aside0.mk (Kd.R_below (R_up HO145.out) hb)
               have n2_ := Aside0.mk (Kd.V_lower (Kd.V_mono (ok' := fun k_ => some k_ ≠ (.slice Ao12 y133.length co12 : Value).ownBlock ∧ some k_ ≠ (v144 : Value).ownBlock) ho18 (fun k_ hk_ => ⟨(Kd.fresh' (Kd.R_lt (R_up HO135.out)) k_ hk_), (Kd.fresh' (Kd.R_lt (R_up HO145.out)) k_ hk_)⟩)) (below_size (HB_up HB.out)))
               have n3_ := Aside0.mk (below_step (HB_up HB.out) hb)
               clear HO135
               clear HO145
               clear HB
               have HO135 := n0_
               have HO145 := n1_
               have HO151 := n2_
               have HB := n3_
               clear n0_ n1_ n2_ n3_
               clear hb ho18
               refine hK.out _ _ ⟨(ck_ HB.out hw136_0), (ck_ HB.out hw136_1), (ck_ HB.out hw136_2), (ck_ HB.out hw136_3), (ck_ HB.out hw136_4), (ck_ HB.out hw136_5), (ck_ HB.out hw136_6), (ck_ HB.out hw136_7)⟩ (fun hHeld => ?_)
               clear hK K
               refine norm_ (a' := ?_) ?_ ?_
               rotate_left
               · show Act.put _ (some 36) _ = _
                 simp only [Act.put, List.setIfInBounds_toArray, List.set_cons_zero, List.set_cons_succ, i64_w, i32_w]
                 rfl
               exact norm_ (by first | (simp only [putAll, Act.put, List.setIfInBounds_toArray, List.set_cons_zero, List.set_cons_succ]; done) | (simp only [putAll, Act.put, List.setIfInBounds_toArray, List.set_cons_zero, List.set_cons_succ]; rfl)) (hJ13_19 (v144, v150) _ ⟨hHeld, (R_up HO135.out), (R_up HO145.out), (V_up HO151.out), (HB_up HB.out)⟩)
            ·
             skip
             rintro v138 w16 ⟨hS_, h0_, h1_, h2_⟩
             have n0_ : Aside0 (Kd.R (Kd.int .u8) 5 w16 w.heap.size (fun _ => True) (.slice Ao12 y133.length co12) y133) := ⟨h0_⟩
             have n1_ : Aside0 (Kd.V (Kd.int .u8) 5 w16 w.heap.size (fun k_ => some k_ ≠ (.slice Ao12 y133.length co12 : Value).ownBlock) v138 y137) := ⟨h1_⟩
             have n2_ : Aside0 (Below w.heap.size w w16) := ⟨h2_⟩
             clear HO135
             clear HB
             clear h0_ h1_ h2_
             have HO135 := n0_
             have HO139 := n1_
             have HB := n2_
             clear n0_ n1_ n2_
             have hHeld : w16.cell? ad132 = some (.int .i64 ((rd_T37 l0 0).f0)) ∧ w16.cell? ⟨ad132.block, ad132.off + 1, none⟩ = some (.string ((rd_T37 l0 0).f1)) ∧ w16.cell? ⟨ad132.block, ad132.off + 2, none⟩ = some (.string ((rd_T37 l0 0).f2)) ∧ w16.cell? ⟨ad132.block, ad132.off + 3, none⟩ = some (.slice A136_3 ((rd_T37 l0 0).f3).length c136_3) ∧ w16.cell? ⟨ad132.block, ad132.off + 4, none⟩ = some (.int .i64 ((rd_T37 l0 0).f4)) ∧ w16.cell? ⟨ad132.block, ad132.off + 5, none⟩ = some (.int .i64 ((rd_T37 l0 0).f5)) ∧ w16.cell? ⟨ad132.block, ad132.off + 6, none⟩ = some (.int .i64 ((rd_T37 l0 0).f6)) ∧ w16.cell? ⟨ad132.block, ad132.off + 7, none⟩ = some (.slice A136_7 ((rd_T37 l0 0).f7).length c136_7) := hS_
             refine norm_ (a' := ?_) ?_ ?_
             rotate_left
             · simp only [putAll, Act.put, List.setIfInBounds_toArray, List.set_cons_zero, List.set_cons_succ]
               rfl
             refine three_ (i := 6) (j := 13) (k := 19) (Ni := some 23) (Nj := some 30) (Nk := some 36) #[true, true, true, true, true, true, true, true, true, true, true, true, true, false, false, true, true, true, true, false, false, false] #[true, true, true, true, true, true, false, true, true, true, true, true, true, true, false, true, true, true, true, false, false, false] #[true, true, true, true, true, true, false, true, true, true, true, true, true, false, false, true, true, true, true, true, false, false] rfl rfl rfl rfl rfl rfl (three_of HT_.out (by kernel_rfl)) (by decide) (by decide) (by decide) (fun K hK => ?_) (fun K hK => ?_) (fun K hK => ?_)
             ·
              skip
              obtain ⟨Ao18, co18, eo18⟩ := Kd.V_slice HO139.out
              (first | subst eo18 | (injection eo18 with f1_ f2_ f3_; have f4_ := f1_.symm; have f5_ := f3_.symm; clear f1_ f2_ f3_; subst f4_; subst f5_))
              refine Kd.R_append_rows_step (Kd.int .u8) (w0 := w) w.heap.size (by rfl) (.tmp 17) (.tmp 22) 24 5 (.int .u8 0) 1 rfl Try.underlying24 info5 rfl (by decide) (by omega) (.slice Ao12 y133.length co12) y133 y137 _ _ _ (fun _ => True) (fun _ => False) rfl rfl ?aO ?aR (fun _ _ h => h) (fun _ h => h.elim) ?aF ?aB ?aS ?aL ?_
              (case aR => exact C_up (Kd.V_reads' HO139.out).2.2)
              (case aB => exact (HB_up HB.out))
              (case aF => exact (fun _ _ => trivial))
              (case aO => exact (R_up HO135.out))
              (case aS => exact (below_size (HB_up HB.out)))
              (case aL => have := LMc4.out; omega)
              intro v141 w17 ho hb hg hat
              rw [← Ny140.out] at ho
              have n0_ := Aside0.mk (Kd.V_afterv (ok := (fun _ => True)) (by (with_reducible repeat (first | apply Kd.V_alloc | apply Kd.V_drewN | apply Kd.V_drew)); exact Kd.V_mono HO139.out (fun _ hk => ⟨trivial, hk⟩)) hg hat)
              have n1_ := Aside0.mk (hb)
              have n2_ := Aside0.mk (ho)
              clear HO139
              clear HB
              clear HO135
              have HO139 := n0_
              have HB := n1_
              have HO142 := n2_
              clear n0_ n1_ n2_
              clear ho hb hg hat
              refine hK.out _ _ ⟨(ck_ HB.out hw136_0), (ck_ HB.out hw136_1), (ck_ HB.out hw136_2), (ck_ HB.out hw136_3), (ck_ HB.out hw136_4), (ck_ HB.out hw136_5), (ck_ HB.out hw136_6), (ck_ HB.out hw136_7)⟩ (fun hHeld => ?_)
              clear hK K
              refine norm_ (a' := ?_) ?_ ?_
              rotate_left
              · show Act.put _ (some 23) _ = _
                simp only [Act.put, List.setIfInBounds_toArray, List.set_cons_zero, List.set_cons_succ, i64_w, i32_w]
                rfl
              exact norm_ (by first | (simp only [putAll, Act.put, List.setIfInBounds_toArray, List.set_cons_zero, List.set_cons_succ]; done) | (simp only [putAll, Act.put, List.setIfInBounds_toArray, List.set_cons_zero, List.set_cons_succ]; rfl)) (hJ5_6 (.slice Ao18 y137.length co18, v141) _ ⟨hHeld, (by (with_reducible repeat (first | apply Kd.V_alloc | apply Kd.V_drewN | apply Kd.V_drew)); exact Kd.V_mono HO139.out (fun _ hk => hk.2)), (R_up HO142.out), (HB_up HB.out)⟩)
             ·
              skip
              refine Kd.R_lit_step (Kd.int .u8) _ 5 ?hg (N := 30) ?hd (xs := ([((((rd_T37 l0 0).f2).size : Int)) % 256] : List Int)) (inner := [.int .u8 (((((rd_T37 l0 0).f2).size : Int)) % 256)]) (ok := fun _ => True) (okp := fun _ => True) ?hr ?hp (fun _ hk => hk) trivial (Below.refl _ _) (Nat.le_refl _) (by simp) ?_; (case hd => rfl); (case hg => rfl); (case hr => first | (go_simp; done) | (go_simp; rfl)); (case hp => exact (Reps.one (show Kd.M (Kd.int .u8) _ _ _ (((((rd_T37 l0 0).f2).size : Int)) % 256) [.int .u8 (((((rd_T37 l0 0).f2).size : Int)) % 256)] from rfl) (Reps.none _ _)))
              intro v144 w17 ho18 hb hg_ hnew_
              clear hg_ hnew_
              (first | rw [← Ny143.out] at ho18 | (simp only [Int.reduceToNat] at ho18; rw [← Ny143.out] at ho18))
              have n0_ := Aside0.mk (Kd.R_elder' (R_up HO135.out) (Kd.R_base ho18) hb)
              have n1_ := Aside0.mk (Kd.V_elder' (V_up HO139.out) (Kd.R_base ho18) hb)
              have n2_ := Aside0.mk (Kd.R_lower (Kd.R_new' ho18 (Kd.R_lt (R_up HO135.out))) (below_size (HB_up HB.out)))
              have n3_ := Aside0.mk (below_step (HB_up HB.out) hb)
              clear HO135
              clear HO139
              clear HB
              have HO135 := n0_
              have HO139 := n1_
              have HO145 := n2_
              have HB := n3_
              clear n0_ n1_ n2_ n3_
              clear hb ho18
              refine hK.out _ _ ⟨(ck_ HB.out hw136_0), (ck_ HB.out hw136_1), (ck_ HB.out hw136_2), (ck_ HB.out hw136_3), (ck_ HB.out hw136_4), (ck_ HB.out hw136_5), (ck_ HB.out hw136_6), (ck_ HB.out hw136_7)⟩ (fun hHeld => ?_)
              clear hK K
              refine norm_ (a' := ?_) ?_ ?_
              rotate_left
              · show Act.put _ (some 30) _ = _
                simp only [Act.put, List.setIfInBounds_toArray, List.set_cons_zero, List.set_cons_succ, i64_w, i32_w]
                rfl
              exact norm_ (by first | (simp only [putAll, Act.put, List.setIfInBounds_toArray, List.set_cons_zero, List.set_cons_succ]; done) | (simp only [putAll, Act.put, List.setIfInBounds_toArray, List.set_cons_zero, List.set_cons_succ]; rfl)) (hJ5_13 (v138, v144) _ ⟨hHeld, (by (with_reducible repeat (first | apply Kd.R_alloc | apply Kd.R_drewN | apply Kd.R_drew)); exact Kd.R_mono HO135.out (fun _ hk => hk.2)), (V_up HO139.out), (by (with_reducible repeat (first | apply Kd.R_alloc | apply Kd.R_drewN | apply Kd.R_drew)); exact Kd.R_mono HO145.out (fun _ hk => hk.2)), (HB_up HB.out)⟩)
             ·
              skip
              refine Kd.V_conv_step _ 5 (by rfl) (N' := 36) rfl 9 24 _ rfl Try.underlying9 Try.underlying24 Try.underlying5 ((rd_T37 l0 0).f2) rfl (by have := LMc6.out; omega) (Below.refl _ _) (Nat.le_refl _) ?_
              intro v150 w17 ho18 hb hg_ hnew_
              clear hg_ hnew_
              (first | rw [← Ny149.out] at ho18 | (simp only [Int.reduceToNat] at ho18; rw [← Ny149.out] at ho18))
              have n0_ := Aside0.mk (Kd.R_below (R_up HO135.out) hb)
              have n1_ := Aside0.mk (Kd.V_below (V_up HO139.out) hb)
              have n2_ := Aside0.mk (Kd.V_lower (Kd.V_mono (ok' := fun k_ => some k_ ≠ (.slice Ao12 y133.length co12 : Value).ownBlock) ho18 (fun k_ hk_ => (Kd.fresh' (Kd.R_lt (R_up HO135.out)) k_ hk_))) (below_size (HB_up HB.out)))
              have n3_ := Aside0.mk (below_step (HB_up HB.out) hb)
              clear HO135
              clear HO139
              clear HB
              have HO135 := n0_
              have HO139 := n1_
              have HO151 := n2_
              have HB := n3_
              clear n0_ n1_ n2_ n3_
              clear hb ho18
              refine hK.out _ _ ⟨(ck_ HB.out hw136_0), (ck_ HB.out hw136_1), (ck_ HB.out hw136_2), (ck_ HB.out hw136_3), (ck_ HB.out hw136_4), (ck_ HB.out hw136_5), (ck_ HB.out hw136_6), (ck_ HB.out hw136_7)⟩ (fun hHeld => ?_)
              clear hK K
              refine norm_ (a' := ?_) ?_ ?_
              rotate_left
              · show Act.put _ (some 36) _ = _
                simp only [Act.put, List.setIfInBounds_toArray, List.set_cons_zero, List.set_cons_succ, i64_w, i32_w]
                rfl
              exact norm_ (by first | (simp only [putAll, Act.put, List.setIfInBounds_toArray, List.set_cons_zero, List.set_cons_succ]; done) | (simp only [putAll, Act.put, List.setIfInBounds_toArray, List.set_cons_zero, List.set_cons_succ]; rfl)) (hJ5_19 (v138, v150) _ ⟨hHeld, (R_up HO135.out), (V_up HO139.out), (V_up HO151.out), (HB_up HB.out)⟩)
           ·
            skip
            rintro ⟨v144, v150⟩ w18 ⟨hS_, h0_, h1_, h2_, h3_⟩
            have n0_ : Aside0 (Kd.R (Kd.int .u8) 5 w18 w.heap.size (fun k_ => some k_ ≠ (v144 : Value).ownBlock) (.slice Ao12 y133.length co12) y133) := ⟨h0_⟩
            have n1_ : Aside0 (Kd.R (Kd.int .u8) 5 w18 w.heap.size (fun k_ => some k_ ≠ (.slice Ao12 y133.length co12 : Value).ownBlock) v144 y143) := ⟨h1_⟩
            have n2_ : Aside0 (Kd.V (Kd.int .u8) 5 w18 w.heap.size (fun k_ => some k_ ≠ (.slice Ao12 y133.length co12 : Value).ownBlock ∧ some k_ ≠ (v144 : Value).ownBlock) v150 y149) := ⟨h2_⟩
            have n3_ : Aside0 (Below w.heap.size w w18) := ⟨h3_⟩
            clear HO135
            clear HB
            clear h0_ h1_ h2_ h3_
            have HO135 := n0_
            have HO145 := n1_
            have HO151 := n2_
            have HB := n3_
            clear n0_ n1_ n2_ n3_
            have hHeld : w18.cell? ad132 = some (.int .i64 ((rd_T37 l0 0).f0)) ∧ w18.cell? ⟨ad132.block, ad132.off + 1, none⟩ = some (.string ((rd_T37 l0 0).f1)) ∧ w18.cell? ⟨ad132.block, ad132.off + 2, none⟩ = some (.string ((rd_T37 l0 0).f2)) ∧ w18.cell? ⟨ad132.block, ad132.off + 3, none⟩ = some (.slice A136_3 ((rd_T37 l0 0).f3).length c136_3) ∧ w18.cell? ⟨ad132.block, ad132.off + 4, none⟩ = some (.int .i64 ((rd_T37 l0 0).f4)) ∧ w18.cell? ⟨ad132.block, ad132.off + 5, none⟩ = some (.int .i64 ((rd_T37 l0 0).f5)) ∧ w18.cell? ⟨ad132.block, ad132.off + 6, none⟩ = some (.int .i64 ((rd_T37 l0 0).f6)) ∧ w18.cell? ⟨ad132.block, ad132.off + 7, none⟩ = some (.slice A136_7 ((rd_T37 l0 0).f7).length c136_7) := hS_
            refine norm_ (a' := ?_) ?_ ?_
            rotate_left
            · simp only [putAll, Act.put, List.setIfInBounds_toArray, List.set_cons_zero, List.set_cons_succ]
              rfl
            refine one_ (i := 5) (N := some 22) #[true, true, true, true, true, true, false, true, true, true, true, true, true, true, false, true, true, true, true, true, false, false] rfl rfl (one_of HT_.out (by kernel_rfl)) (by decide) (fun K hK => ?_)
            refine Kd.V_conv_step _ 5 (by rfl) (N' := 22) rfl 9 24 _ rfl Try.underlying9 Try.underlying24 Try.underlying5 ((rd_T37 l0 0).f1) rfl (by have := LMc3.out; omega) (Below.refl _ _) (Nat.le_refl _) ?_
            intro v138 w19 ho20 hb hg_ hnew_
            clear hg_ hnew_
            (first | rw [← Ny137.out] at ho20 | (simp only [Int.reduceToNat] at ho20; rw [← Ny137.out] at ho20))
            have n0_ := Aside0.mk (Kd.R_below (R_up HO135.out) hb)
            have n1_ := Aside0.mk (Kd.R_below (R_up HO145.out) hb)
            have n2_ := Aside0.mk (Kd.V_below (V_up HO151.out) hb)
            have n3_ := Aside0.mk (Kd.V_lower (Kd.V_mono (ok' := fun k_ => some k_ ≠ (.slice Ao12 y133.length co12 : Value).ownBlock ∧ some k_ ≠ (v144 : Value).ownBlock) ho20 (fun k_ hk_ => ⟨(Kd.fresh' (Kd.R_lt (R_up HO135.out)) k_ hk_), (Kd.fresh' (Kd.R_lt (R_up HO145.out)) k_ hk_)⟩)) (below_size (HB_up HB.out)))
            have n4_ := Aside0.mk (below_step (HB_up HB.out) hb)
            clear HO135
            clear HO145
            clear HO151
            clear HB
            have HO135 := n0_
            have HO145 := n1_
            have HO151 := n2_
            have HO139 := n3_
            have HB := n4_
            clear n0_ n1_ n2_ n3_ n4_
            clear hb ho20
            refine hK.out _ _ ⟨(ck_ HB.out hw136_0), (ck_ HB.out hw136_1), (ck_ HB.out hw136_2), (ck_ HB.out hw136_3), (ck_ HB.out hw136_4), (ck_ HB.out hw136_5), (ck_ HB.out hw136_6), (ck_ HB.out hw136_7)⟩ (fun hHeld => ?_)
            clear hK K
            refine norm_ (a' := ?_) ?_ ?_
            rotate_left
            · show Act.put _ (some 22) _ = _
              simp only [Act.put, List.setIfInBounds_toArray, List.set_cons_zero, List.set_cons_succ, i64_w, i32_w]
              rfl
            exact norm_ (by first | (simp only [putAll, Act.put, List.setIfInBounds_toArray, List.set_cons_zero, List.set_cons_succ]; done) | (simp only [putAll, Act.put, List.setIfInBounds_toArray, List.set_cons_zero, List.set_cons_succ]; rfl)) (hJ5_13_19 (v138, v144, v150) _ ⟨hHeld, (R_up HO135.out), (V_up HO139.out), (R_up HO145.out), (V_up HO151.out), (HB_up HB.out)⟩)
          ·
           skip
           rintro ⟨v138, v150⟩ w18 ⟨hS_, h0_, h1_, h2_, h3_⟩
           have n0_ : Aside0 (Kd.R (Kd.int .u8) 5 w18 w.heap.size (fun _ => True) (.slice Ao12 y133.length co12) y133) := ⟨h0_⟩
           have n1_ : Aside0 (Kd.V (Kd.int .u8) 5 w18 w.heap.size (fun k_ => some k_ ≠ (.slice Ao12 y133.length co12 : Value).ownBlock) v138 y137) := ⟨h1_⟩
           have n2_ : Aside0 (Kd.V (Kd.int .u8) 5 w18 w.heap.size (fun k_ => some k_ ≠ (.slice Ao12 y133.length co12 : Value).ownBlock) v150 y149) := ⟨h2_⟩
           have n3_ : Aside0 (Below w.heap.size w w18) := ⟨h3_⟩
           clear HO135
           clear HB
           clear h0_ h1_ h2_ h3_
           have HO135 := n0_
           have HO139 := n1_
           have HO151 := n2_
           have HB := n3_
           clear n0_ n1_ n2_ n3_
           have hHeld : w18.cell? ad132 = some (.int .i64 ((rd_T37 l0 0).f0)) ∧ w18.cell? ⟨ad132.block, ad132.off + 1, none⟩ = some (.string ((rd_T37 l0 0).f1)) ∧ w18.cell? ⟨ad132.block, ad132.off + 2, none⟩ = some (.string ((rd_T37 l0 0).f2)) ∧ w18.cell? ⟨ad132.block, ad132.off + 3, none⟩ = some (.slice A136_3 ((rd_T37 l0 0).f3).length c136_3) ∧ w18.cell? ⟨ad132.block, ad132.off + 4, none⟩ = some (.int .i64 ((rd_T37 l0 0).f4)) ∧ w18.cell? ⟨ad132.block, ad132.off + 5, none⟩ = some (.int .i64 ((rd_T37 l0 0).f5)) ∧ w18.cell? ⟨ad132.block, ad132.off + 6, none⟩ = some (.int .i64 ((rd_T37 l0 0).f6)) ∧ w18.cell? ⟨ad132.block, ad132.off + 7, none⟩ = some (.slice A136_7 ((rd_T37 l0 0).f7).length c136_7) := hS_
           refine norm_ (a' := ?_) ?_ ?_
           rotate_left
           · simp only [putAll, Act.put, List.setIfInBounds_toArray, List.set_cons_zero, List.set_cons_succ]
             rfl
           refine two_ (i := 6) (j := 13) (Ni := some 23) (Nj := some 30) #[true, true, true, true, true, true, true, true, true, true, true, true, true, false, false, true, true, true, true, true, false, false] #[true, true, true, true, true, true, false, true, true, true, true, true, true, true, false, true, true, true, true, true, false, false] rfl rfl rfl rfl (two_of HT_.out (by kernel_rfl)) (by decide) (by decide) (fun K hK => ?_) (fun K hK => ?_)
           ·
            skip
            obtain ⟨Ao20, co20, eo20⟩ := Kd.V_slice HO139.out
            (first | subst eo20 | (injection eo20 with f1_ f2_ f3_; have f4_ := f1_.symm; have f5_ := f3_.symm; clear f1_ f2_ f3_; subst f4_; subst f5_))
            refine Kd.R_append_rows_step (Kd.int .u8) (w0 := w) w.heap.size (by rfl) (.tmp 17) (.tmp 22) 24 5 (.int .u8 0) 1 rfl Try.underlying24 info5 rfl (by decide) (by omega) (.slice Ao12 y133.length co12) y133 y137 _ _ _ (fun _ => True) (fun _ => False) rfl rfl ?aO ?aR (fun _ _ h => h) (fun _ h => h.elim) ?aF ?aB ?aS ?aL ?_
            (case aR => exact C_up (Kd.V_reads' HO139.out).2.2)
            (case aB => exact (HB_up HB.out))
            (case aF => exact (fun _ _ => trivial))
            (case aO => exact (R_up HO135.out))
            (case aS => exact (below_size (HB_up HB.out)))
            (case aL => have := LMc4.out; omega)
            intro v141 w19 ho hb hg hat
            rw [← Ny140.out] at ho
            have n0_ := Aside0.mk (Kd.V_afterv (ok := (fun _ => True)) (by (with_reducible repeat (first | apply Kd.V_alloc | apply Kd.V_drewN | apply Kd.V_drew)); exact Kd.V_mono HO139.out (fun _ hk => ⟨trivial, hk⟩)) hg hat)
            have n1_ := Aside0.mk (Kd.V_afterv (ok := (fun _ => True)) (by (with_reducible repeat (first | apply Kd.V_alloc | apply Kd.V_drewN | apply Kd.V_drew)); exact Kd.V_mono HO151.out (fun _ hk => ⟨trivial, hk⟩)) hg hat)
            have n2_ := Aside0.mk (hb)
            have n3_ := Aside0.mk (ho)
            clear HO139
            clear HO151
            clear HB
            clear HO135
            have HO139 := n0_
            have HO151 := n1_
            have HB := n2_
            have HO142 := n3_
            clear n0_ n1_ n2_ n3_
            clear ho hb hg hat
            refine hK.out _ _ ⟨(ck_ HB.out hw136_0), (ck_ HB.out hw136_1), (ck_ HB.out hw136_2), (ck_ HB.out hw136_3), (ck_ HB.out hw136_4), (ck_ HB.out hw136_5), (ck_ HB.out hw136_6), (ck_ HB.out hw136_7)⟩ (fun hHeld => ?_)
            clear hK K
            refine norm_ (a' := ?_) ?_ ?_
            rotate_left
            · show Act.put _ (some 23) _ = _
              simp only [Act.put, List.setIfInBounds_toArray, List.set_cons_zero, List.set_cons_succ, i64_w, i32_w]
              rfl
            exact norm_ (by first | (simp only [putAll, Act.put, List.setIfInBounds_toArray, List.set_cons_zero, List.set_cons_succ]; done) | (simp only [putAll, Act.put, List.setIfInBounds_toArray, List.set_cons_zero, List.set_cons_succ]; rfl)) (hJ5_6_19 (.slice Ao20 y137.length co20, v141, v150) _ ⟨hHeld, (by (with_reducible repeat (first | apply Kd.V_alloc | apply Kd.V_drewN | apply Kd.V_drew)); exact Kd.V_mono HO139.out (fun _ hk => hk.2)), (R_up HO142.out), (by (with_reducible repeat (first | apply Kd.V_alloc | apply Kd.V_drewN | apply Kd.V_drew)); exact Kd.V_mono HO151.out (fun _ hk => hk.2)), (HB_up HB.out)⟩)
           ·
            skip
            refine Kd.R_lit_step (Kd.int .u8) _ 5 ?hg (N := 30) ?hd (xs := ([((((rd_T37 l0 0).f2).size : Int)) % 256] : List Int)) (inner := [.int .u8 (((((rd_T37 l0 0).f2).size : Int)) % 256)]) (ok := fun _ => True) (okp := fun _ => True) ?hr ?hp (fun _ hk => hk) trivial (Below.refl _ _) (Nat.le_refl _) (by simp) ?_; (case hd => rfl); (case hg => rfl); (case hr => first | (go_simp; done) | (go_simp; rfl)); (case hp => exact (Reps.one (show Kd.M (Kd.int .u8) _ _ _ (((((rd_T37 l0 0).f2).size : Int)) % 256) [.int .u8 (((((rd_T37 l0 0).f2).size : Int)) % 256)] from rfl) (Reps.none _ _)))
            intro v144 w19 ho20 hb hg_ hnew_
            clear hg_ hnew_
            (first | rw [← Ny143.out] at ho20 | (simp only [Int.reduceToNat] at ho20; rw [← Ny143.out] at ho20))
            have n0_ := Aside0.mk (Kd.R_elder' (R_up HO135.out) (Kd.R_base ho20) hb)
            have n1_ := Aside0.mk (Kd.V_elder' (V_up HO139.out) (Kd.R_base ho20) hb)
            have n2_ := Aside0.mk (Kd.V_elder' (V_up HO151.out) (Kd.R_base ho20) hb)
            have n3_ := Aside0.mk (Kd.R_lower (Kd.R_new' ho20 (Kd.R_lt (R_up HO135.out))) (below_size (HB_up HB.out)))
            have n4_ := Aside0.mk (below_step (HB_up HB.out) hb)
            clear HO135
            clear HO139
            clear HO151
            clear HB
            have HO135 := n0_
            have HO139 := n1_
            have HO151 := n2_
            have HO145 := n3_
            have HB := n4_
            clear n0_ n1_ n2_ n3_ n4_
            clear hb ho20
            refine hK.out _ _ ⟨(ck_ HB.out hw136_0), (ck_ HB.out hw136_1), (ck_ HB.out hw136_2), (ck_ HB.out hw136_3), (ck_ HB.out hw136_4), (ck_ HB.out hw136_5), (ck_ HB.out hw136_6), (ck_ HB.out hw136_7)⟩ (fun hHeld => ?_)
            clear hK K
            refine norm_ (a' := ?_) ?_ ?_
            rotate_left
            · show Act.put _ (some 30) _ = _
              simp only [Act.put, List.setIfInBounds_toArray, List.set_cons_zero, List.set_cons_succ, i64_w, i32_w]
              rfl
            exact norm_ (by first | (simp only [putAll, Act.put, List.setIfInBounds_toArray, List.set_cons_zero, List.set_cons_succ]; done) | (simp only [putAll, Act.put, List.setIfInBounds_toArray, List.set_cons_zero, List.set_cons_succ]; rfl)) (hJ5_13_19 (v138, v144, v150) _ ⟨hHeld, (by (with_reducible repeat (first | apply Kd.R_alloc | apply Kd.R_drewN | apply Kd.R_drew)); exact Kd.R_mono HO135.out (fun _ hk => hk.2)), (V_up HO139.out), (by (with_reducible repeat (first | apply Kd.R_alloc | apply Kd.R_drewN | apply Kd.R_drew)); exact Kd.R_mono HO145.out (fun _ hk => hk.2)), (V_up HO151.out), (HB_up HB.out)⟩)
         ·
          skip
          rintro ⟨v138, v144⟩ w18 ⟨hS_, h0_, h1_, h2_, h3_⟩
          have n0_ : Aside0 (Kd.R (Kd.int .u8) 5 w18 w.heap.size (fun k_ => some k_ ≠ (v144 : Value).ownBlock) (.slice Ao12 y133.length co12) y133) := ⟨h0_⟩
          have n1_ : Aside0 (Kd.V (Kd.int .u8) 5 w18 w.heap.size (fun k_ => some k_ ≠ (.slice Ao12 y133.length co12 : Value).ownBlock ∧ some k_ ≠ (v144 : Value).ownBlock) v138 y137) := ⟨h1_⟩
          have n2_ : Aside0 (Kd.R (Kd.int .u8) 5 w18 w.heap.size (fun k_ => some k_ ≠ (.slice Ao12 y133.length co12 : Value).ownBlock) v144 y143) := ⟨h2_⟩
          have n3_ : Aside0 (Below w.heap.size w w18) := ⟨h3_⟩
          clear HO135
          clear HB
          clear h0_ h1_ h2_ h3_
          have HO135 := n0_
          have HO139 := n1_
          have HO145 := n2_
          have HB := n3_
          clear n0_ n1_ n2_ n3_
          have hHeld : w18.cell? ad132 = some (.int .i64 ((rd_T37 l0 0).f0)) ∧ w18.cell? ⟨ad132.block, ad132.off + 1, none⟩ = some (.string ((rd_T37 l0 0).f1)) ∧ w18.cell? ⟨ad132.block, ad132.off + 2, none⟩ = some (.string ((rd_T37 l0 0).f2)) ∧ w18.cell? ⟨ad132.block, ad132.off + 3, none⟩ = some (.slice A136_3 ((rd_T37 l0 0).f3).length c136_3) ∧ w18.cell? ⟨ad132.block, ad132.off + 4, none⟩ = some (.int .i64 ((rd_T37 l0 0).f4)) ∧ w18.cell? ⟨ad132.block, ad132.off + 5, none⟩ = some (.int .i64 ((rd_T37 l0 0).f5)) ∧ w18.cell? ⟨ad132.block, ad132.off + 6, none⟩ = some (.int .i64 ((rd_T37 l0 0).f6)) ∧ w18.cell? ⟨ad132.block, ad132.off + 7, none⟩ = some (.slice A136_7 ((rd_T37 l0 0).f7).length c136_7) := hS_
          refine norm_ (a' := ?_) ?_ ?_
          rotate_left
          · simp only [putAll, Act.put, List.setIfInBounds_toArray, List.set_cons_zero, List.set_cons_succ]
            rfl
          refine two_ (i := 6) (j := 19) (Ni := some 23) (Nj := some 36) #[true, true, true, true, true, true, true, true, true, true, true, true, true, true, false, true, true, true, true, false, false, false] #[true, true, true, true, true, true, false, true, true, true, true, true, true, true, false, true, true, true, true, true, false, false] rfl rfl rfl rfl (two_of HT_.out (by kernel_rfl)) (by decide) (by decide) (fun K hK => ?_) (fun K hK => ?_)
          ·
           skip
           obtain ⟨Ao20, co20, eo20⟩ := Kd.V_slice HO139.out
           (first | subst eo20 | (injection eo20 with f1_ f2_ f3_; have f4_ := f1_.symm; have f5_ := f3_.symm; clear f1_ f2_ f3_; subst f4_; subst f5_))
           refine Kd.R_append_rows_step (Kd.int .u8) (w0 := w) w.heap.size (by rfl) (.tmp 17) (.tmp 22) 24 5 (.int .u8 0) 1 rfl Try.underlying24 info5 rfl (by decide) (by omega) (.slice Ao12 y133.length co12) y133 y137 _ _ _ (fun k_ => some k_ ≠ (v144 : Value).ownBlock) (fun _ => False) rfl rfl ?aO ?aR (fun _ _ h => h) (fun _ h => h.elim) ?aF ?aB ?aS ?aL ?_
           (case aR => exact C_up (Kd.V_reads' HO139.out).2.2)
           (case aB => exact (HB_up HB.out))
           (case aF => exact (fun k_ hk => Kd.fresh' (Kd.R_lt (R_up HO145.out)) k_ hk))
           (case aO => exact (R_up HO135.out))
           (case aS => exact (below_size (HB_up HB.out)))
           (case aL => have := LMc4.out; omega)
           intro v141 w19 ho hb hg hat
           rw [← Ny140.out] at ho
           have n0_ := Aside0.mk (Kd.V_afterv (ok := (fun k_ => some k_ ≠ (v144 : Value).ownBlock)) (by (with_reducible repeat (first | apply Kd.V_alloc | apply Kd.V_drewN | apply Kd.V_drew)); exact Kd.V_mono HO139.out (fun _ hk => ⟨hk.2, hk.1⟩)) hg hat)
           have n1_ := Aside0.mk (Kd.R_after (ok := (fun _ => True)) (by (with_reducible repeat (first | apply Kd.R_alloc | apply Kd.R_drewN | apply Kd.R_drew)); exact Kd.R_mono HO145.out (fun _ hk => ⟨trivial, hk⟩)) hg hat)
           have n2_ := Aside0.mk (hb)
           have n3_ := Aside0.mk (ho)
           clear HO139
           clear HO145
           clear HB
           clear HO135
           have HO139 := n0_
           have HO145 := n1_
           have HB := n2_
           have HO142 := n3_
           clear n0_ n1_ n2_ n3_
           clear ho hb hg hat
           refine hK.out _ _ ⟨(ck_ HB.out hw136_0), (ck_ HB.out hw136_1), (ck_ HB.out hw136_2), (ck_ HB.out hw136_3), (ck_ HB.out hw136_4), (ck_ HB.out hw136_5), (ck_ HB.out hw136_6), (ck_ HB.out hw136_7)⟩ (fun hHeld => ?_)
           clear hK K
           refine norm_ (a' := ?_) ?_ ?_
           rotate_left
           · show Act.put _ (some 23) _ = _
             simp only [Act.put, List.setIfInBounds_toArray, List.set_cons_zero, List.set_cons_succ, i64_w, i32_w]
             rfl
           exact norm_ (by first | (simp only [putAll, Act.put, List.setIfInBounds_toArray, List.set_cons_zero, List.set_cons_succ]; done) | (simp only [putAll, Act.put, List.setIfInBounds_toArray, List.set_cons_zero, List.set_cons_succ]; rfl)) (hJ5_6_13 (.slice Ao20 y137.length co20, v141, v144) _ ⟨hHeld, (by (with_reducible repeat (first | apply Kd.V_alloc | apply Kd.V_drewN | apply Kd.V_drew)); exact Kd.V_mono HO139.out (fun _ hk => ⟨hk.2, hk.1⟩)), (R_up HO142.out), (by (with_reducible repeat (first | apply Kd.R_alloc | apply Kd.R_drewN | apply Kd.R_drew)); exact Kd.R_mono HO145.out (fun _ hk => hk.2)), (HB_up HB.out)⟩)
          ·
           skip
           refine Kd.V_conv_step _ 5 (by rfl) (N' := 36) rfl 9 24 _ rfl Try.underlying9 Try.underlying24 Try.underlying5 ((rd_T37 l0 0).f2) rfl (by have := LMc6.out; omega) (Below.refl _ _) (Nat.le_refl _) ?_
           intro v150 w19 ho20 hb hg_ hnew_
           clear hg_ hnew_
           (first | rw [← Ny149.out] at ho20 | (simp only [Int.reduceToNat] at ho20; rw [← Ny149.out] at ho20))
           have n0_ := Aside0.mk (Kd.R_below (R_up HO135.out) hb)
           have n1_ := Aside0.mk (Kd.V_below (V_up HO139.out) hb)
           have n2_ := Aside0.mk (Kd.R_below (R_up HO145.out) hb)
           have n3_ := Aside0.mk (Kd.V_lower (Kd.V_mono (ok' := fun k_ => some k_ ≠ (.slice Ao12 y133.length co12 : Value).ownBlock ∧ some k_ ≠ (v144 : Value).ownBlock) ho20 (fun k_ hk_ => ⟨(Kd.fresh' (Kd.R_lt (R_up HO135.out)) k_ hk_), (Kd.fresh' (Kd.R_lt (R_up HO145.out)) k_ hk_)⟩)) (below_size (HB_up HB.out)))
           have n4_ := Aside0.mk (below_step (HB_up HB.out) hb)
           clear HO135
           clear HO139
           clear HO145
           clear HB
           have HO135 := n0_
           have HO139 := n1_
           have HO145 := n2_
           have HO151 := n3_
           have HB := n4_
           clear n0_ n1_ n2_ n3_ n4_
           clear hb ho20
           refine hK.out _ _ ⟨(ck_ HB.out hw136_0), (ck_ HB.out hw136_1), (ck_ HB.out hw136_2), (ck_ HB.out hw136_3), (ck_ HB.out hw136_4), (ck_ HB.out hw136_5), (ck_ HB.out hw136_6), (ck_ HB.out hw136_7)⟩ (fun hHeld => ?_)
           clear hK K
           refine norm_ (a' := ?_) ?_ ?_
           rotate_left
           · show Act.put _ (some 36) _ = _
             simp only [Act.put, List.setIfInBounds_toArray, List.set_cons_zero, List.set_cons_succ, i64_w, i32_w]
             rfl
           exact norm_ (by first | (simp only [putAll, Act.put, List.setIfInBounds_toArray, List.set_cons_zero, List.set_cons_succ]; done) | (simp only [putAll, Act.put, List.setIfInBounds_toArray, List.set_cons_zero, List.set_cons_succ]; rfl)) (hJ5_13_19 (v138, v144, v150) _ ⟨hHeld, (R_up HO135.out), (V_up HO139.out), (R_up HO145.out), (V_up HO151.out), (HB_up HB.out)⟩)
        ·
         skip
         rintro ⟨v138, v141⟩ w18 ⟨hS_, h0_, h1_, h2_⟩
         have n0_ : Aside0 (Kd.V (Kd.int .u8) 5 w18 w.heap.size (fun k_ => some k_ ≠ (v141 : Value).ownBlock) v138 y137) := ⟨h0_⟩
         have n1_ : Aside0 (Kd.R (Kd.int .u8) 5 w18 w.heap.size (fun _ => True) v141 y140) := ⟨h1_⟩
         have n2_ : Aside0 (Below w.heap.size w w18) := ⟨h2_⟩
         clear HO135
         clear HB
         clear h0_ h1_ h2_
         have HO139 := n0_
         have HO142 := n1_
         have HB := n2_
         clear n0_ n1_ n2_
         have hHeld : w18.cell? ad132 = some (.int .i64 ((rd_T37 l0 0).f0)) ∧ w18.cell? ⟨ad132.block, ad132.off + 1, none⟩ = some (.string ((rd_T37 l0 0).f1)) ∧ w18.cell? ⟨ad132.block, ad132.off + 2, none⟩ = some (.string ((rd_T37 l0 0).f2)) ∧ w18.cell? ⟨ad132.block, ad132.off + 3, none⟩ = some (.slice A136_3 ((rd_T37 l0 0).f3).length c136_3) ∧ w18.cell? ⟨ad132.block, ad132.off + 4, none⟩ = some (.int .i64 ((rd_T37 l0 0).f4)) ∧ w18.cell? ⟨ad132.block, ad132.off + 5, none⟩ = some (.int .i64 ((rd_T37 l0 0).f5)) ∧ w18.cell? ⟨ad132.block, ad132.off + 6, none⟩ = some (.int .i64 ((rd_T37 l0 0).f6)) ∧ w18.cell? ⟨ad132.block, ad132.off + 7, none⟩ = some (.slice A136_7 ((rd_T37 l0 0).f7).length c136_7) := hS_
         refine norm_ (a' := ?_) ?_ ?_
         rotate_left
         · simp only [putAll, Act.put, List.setIfInBounds_toArray, List.set_cons_zero, List.set_cons_succ]
           rfl
         refine two_ (i := 13) (j := 19) (Ni := some 30) (Nj := some 36) #[true, true, true, true, true, true, true, true, true, true, true, true, true, true, false, true, true, true, true, false, false, false] #[true, true, true, true, true, true, true, true, true, true, true, true, true, false, false, true, true, true, true, true, false, false] rfl rfl rfl rfl (two_of HT_.out (by kernel_rfl)) (by decide) (by decide) (fun K hK => ?_) (fun K hK => ?_)
         ·
          skip
          refine Kd.R_lit_step (Kd.int .u8) _ 5 ?hg (N := 30) ?hd (xs := ([((((rd_T37 l0 0).f2).size : Int)) % 256] : List Int)) (inner := [.int .u8 (((((rd_T37 l0 0).f2).size : Int)) % 256)]) (ok := fun _ => True) (okp := fun _ => True) ?hr ?hp (fun _ hk => hk) trivial (Below.refl _ _) (Nat.le_refl _) (by simp) ?_; (case hd => rfl); (case hg => rfl); (case hr => first | (go_simp; done) | (go_simp; rfl)); (case hp => exact (Reps.one (show Kd.M (Kd.int .u8) _ _ _ (((((rd_T37 l0 0).f2).size : Int)) % 256) [.int .u8 (((((rd_T37 l0 0).f2).size : Int)) % 256)] from rfl) (Reps.none _ _)))
          intro v144 w19 ho20 hb hg_ hnew_
          clear hg_ hnew_
          (first | rw [← Ny143.out] at ho20 | (simp only [Int.reduceToNat] at ho20; rw [← Ny143.out] at ho20))
          have n0_ := Aside0.mk (Kd.V_elder' (V_up HO139.out) (Kd.R_base ho20) hb)
          have n1_ := Aside0.mk (Kd.R_elder' (R_up HO142.out) (Kd.R_base ho20) hb)
          have n2_ := Aside0.mk (Kd.R_lower (Kd.R_new' ho20 (Kd.R_lt (R_up HO142.out))) (below_size (HB_up HB.out)))
          have n3_ := Aside0.mk (below_step (HB_up HB.out) hb)
          clear HO139
          clear HO142
          clear HB
          have HO139 := n0_
          have HO142 := n1_
          have HO145 := n2_
          have HB := n3_
          clear n0_ n1_ n2_ n3_
          clear hb ho20
          refine hK.out _ _ ⟨(ck_ HB.out hw136_0), (ck_ HB.out hw136_1), (ck_ HB.out hw136_2), (ck_ HB.out hw136_3), (ck_ HB.out hw136_4), (ck_ HB.out hw136_5), (ck_ HB.out hw136_6), (ck_ HB.out hw136_7)⟩ (fun hHeld => ?_)
          clear hK K
          refine norm_ (a' := ?_) ?_ ?_
          rotate_left
          · show Act.put _ (some 30) _ = _
            simp only [Act.put, List.setIfInBounds_toArray, List.set_cons_zero, List.set_cons_succ, i64_w, i32_w]
            rfl
          exact norm_ (by first | (simp only [putAll, Act.put, List.setIfInBounds_toArray, List.set_cons_zero, List.set_cons_succ]; done) | (simp only [putAll, Act.put, List.setIfInBounds_toArray, List.set_cons_zero, List.set_cons_succ]; rfl)) (hJ5_6_13 (v138, v141, v144) _ ⟨hHeld, (V_up HO139.out), (by (with_reducible repeat (first | apply Kd.R_alloc | apply Kd.R_drewN | apply Kd.R_drew)); exact Kd.R_mono HO142.out (fun _ hk => hk.2)), (by (with_reducible repeat (first | apply Kd.R_alloc | apply Kd.R_drewN | apply Kd.R_drew)); exact Kd.R_mono HO145.out (fun _ hk => hk.2)), (HB_up HB.out)⟩)
         ·
          skip
          refine Kd.V_conv_step _ 5 (by rfl) (N' := 36) rfl 9 24 _ rfl Try.underlying9 Try.underlying24 Try.underlying5 ((rd_T37 l0 0).f2) rfl (by have := LMc6.out; omega) (Below.refl _ _) (Nat.le_refl _) ?_
          intro v150 w19 ho20 hb hg_ hnew_
          clear hg_ hnew_
          (first | rw [← Ny149.out] at ho20 | (simp only [Int.reduceToNat] at ho20; rw [← Ny149.out] at ho20))
          have n0_ := Aside0.mk (Kd.V_below (V_up HO139.out) hb)
          have n1_ := Aside0.mk (Kd.R_below (R_up HO142.out) hb)
          have n2_ := Aside0.mk (Kd.V_lower (Kd.V_mono (ok' := fun k_ => some k_ ≠ (v141 : Value).ownBlock) ho20 (fun k_ hk_ => (Kd.fresh' (Kd.R_lt (R_up HO142.out)) k_ hk_))) (below_size (HB_up HB.out)))
          have n3_ := Aside0.mk (below_step (HB_up HB.out) hb)
          clear HO139
          clear HO142
          clear HB
          have HO139 := n0_
          have HO142 := n1_
          have HO151 := n2_
          have HB := n3_
          clear n0_ n1_ n2_ n3_
          clear hb ho20
          refine hK.out _ _ ⟨(ck_ HB.out hw136_0), (ck_ HB.out hw136_1), (ck_ HB.out hw136_2), (ck_ HB.out hw136_3), (ck_ HB.out hw136_4), (ck_ HB.out hw136_5), (ck_ HB.out hw136_6), (ck_ HB.out hw136_7)⟩ (fun hHeld => ?_)
          clear hK K
          refine norm_ (a' := ?_) ?_ ?_
          rotate_left
          · show Act.put _ (some 36) _ = _
            simp only [Act.put, List.setIfInBounds_toArray, List.set_cons_zero, List.set_cons_succ, i64_w, i32_w]
            rfl
          exact norm_ (by first | (simp only [putAll, Act.put, List.setIfInBounds_toArray, List.set_cons_zero, List.set_cons_succ]; done) | (simp only [putAll, Act.put, List.setIfInBounds_toArray, List.set_cons_zero, List.set_cons_succ]; rfl)) (hJ5_6_19 (v138, v141, v150) _ ⟨hHeld, (V_up HO139.out), (R_up HO142.out), (V_up HO151.out), (HB_up HB.out)⟩)
       ·
        skip
        rintro ⟨v138, v144, v150⟩ w20 ⟨hS_, h0_, h1_, h2_, h3_, h4_⟩
        have n0_ : Aside0 (Kd.R (Kd.int .u8) 5 w20 w.heap.size (fun k_ => some k_ ≠ (v144 : Value).ownBlock) (.slice Ao12 y133.length co12) y133) := ⟨h0_⟩
        have n1_ : Aside0 (Kd.V (Kd.int .u8) 5 w20 w.heap.size (fun k_ => some k_ ≠ (.slice Ao12 y133.length co12 : Value).ownBlock ∧ some k_ ≠ (v144 : Value).ownBlock) v138 y137) := ⟨h1_⟩
        have n2_ : Aside0 (Kd.R (Kd.int .u8) 5 w20 w.heap.size (fun k_ => some k_ ≠ (.slice Ao12 y133.length co12 : Value).ownBlock) v144 y143) := ⟨h2_⟩
        have n3_ : Aside0 (Kd.V (Kd.int .u8) 5 w20 w.heap.size (fun k_ => some k_ ≠ (.slice Ao12 y133.length co12 : Value).ownBlock ∧ some k_ ≠ (v144 : Value).ownBlock) v150 y149) := ⟨h3_⟩
        have n4_ : Aside0 (Below w.heap.size w w20) := ⟨h4_⟩
        clear HO135
        clear HB
        clear h0_ h1_ h2_ h3_ h4_
        have HO135 := n0_
        have HO139 := n1_
        have HO145 := n2_
        have HO151 := n3_
        have HB := n4_
        clear n0_ n1_ n2_ n3_ n4_
        have hHeld : w20.cell? ad132 = some (.int .i64 ((rd_T37 l0 0).f0)) ∧ w20.cell? ⟨ad132.block, ad132.off + 1, none⟩ = some (.string ((rd_T37 l0 0).f1)) ∧ w20.cell? ⟨ad132.block, ad132.off + 2, none⟩ = some (.string ((rd_T37 l0 0).f2)) ∧ w20.cell? ⟨ad132.block, ad132.off + 3, none⟩ = some (.slice A136_3 ((rd_T37 l0 0).f3).length c136_3) ∧ w20.cell? ⟨ad132.block, ad132.off + 4, none⟩ = some (.int .i64 ((rd_T37 l0 0).f4)) ∧ w20.cell? ⟨ad132.block, ad132.off + 5, none⟩ = some (.int .i64 ((rd_T37 l0 0).f5)) ∧ w20.cell? ⟨ad132.block, ad132.off + 6, none⟩ = some (.int .i64 ((rd_T37 l0 0).f6)) ∧ w20.cell? ⟨ad132.block, ad132.off + 7, none⟩ = some (.slice A136_7 ((rd_T37 l0 0).f7).length c136_7) := hS_
        refine norm_ (a' := ?_) ?_ ?_
        rotate_left
        · simp only [putAll, Act.put, List.setIfInBounds_toArray, List.set_cons_zero, List.set_cons_succ]
          rfl
        refine one_ (i := 6) (N := some 23) #[true, true, true, true, true, true, true, true, true, true, true, true, true, true, false, true, true, true, true, true, false, false] rfl rfl (one_of HT_.out (by kernel_rfl)) (by decide) (fun K hK => ?_)
        obtain ⟨Ao22, co22, eo22⟩ := Kd.V_slice HO139.out
        (first | subst eo22 | (injection eo22 with f1_ f2_ f3_; have f4_ := f1_.symm; have f5_ := f3_.symm; clear f1_ f2_ f3_; subst f4_; subst f5_))
        refine Kd.R_append_rows_step (Kd.int .u8) (w0 := w) w.heap.size (by rfl) (.tmp 17) (.tmp 22) 24 5 (.int .u8 0) 1 rfl Try.underlying24 info5 rfl (by decide) (by omega) (.slice Ao12 y133.length co12) y133 y137 _ _ _ (fun k_ => some k_ ≠ (v144 : Value).ownBlock) (fun _ => False) rfl rfl ?aO ?aR (fun _ _ h => h) (fun _ h => h.elim) ?aF ?aB ?aS ?aL ?_
        (case aR => exact C_up (Kd.V_reads' HO139.out).2.2)
        (case aB => exact (HB_up HB.out))
        (case aF => exact (fun k_ hk => Kd.fresh' (Kd.R_lt (R_up HO145.out)) k_ hk))
        (case aO => exact (R_up HO135.out))
        (case aS => exact (below_size (HB_up HB.out)))
        (case aL => have := LMc4.out; omega)
        intro v141 w21 ho hb hg hat
        rw [← Ny140.out] at ho
        have n0_ := Aside0.mk (Kd.V_afterv (ok := (fun k_ => some k_ ≠ (v144 : Value).ownBlock)) (by (with_reducible repeat (first | apply Kd.V_alloc | apply Kd.V_drewN | apply Kd.V_drew)); exact Kd.V_mono HO139.out (fun _ hk => ⟨hk.2, hk.1⟩)) hg hat)
        have n1_ := Aside0.mk (Kd.R_after (ok := (fun _ => True)) (by (with_reducible repeat (first | apply Kd.R_alloc | apply Kd.R_drewN | apply Kd.R_drew)); exact Kd.R_mono HO145.out (fun _ hk => ⟨trivial, hk⟩)) hg hat)
        have n2_ := Aside0.mk (Kd.V_afterv (ok := (fun k_ => some k_ ≠ (v144 : Value).ownBlock)) (by (with_reducible repeat (first | apply Kd.V_alloc | apply Kd.V_drewN | apply Kd.V_drew)); exact Kd.V_mono HO151.out (fun _ hk => ⟨hk.2, hk.1⟩)) hg hat)
        have n3_ := Aside0.mk (hb)
        have n4_ := Aside0.mk (ho)
        clear HO139
        clear HO145
        clear HO151
        clear HB
        clear HO135
        have HO139 := n0_
        have HO145 := n1_
        have HO151 := n2_
        have HB := n3_
        have HO142 := n4_
        clear n0_ n1_ n2_ n3_ n4_
        clear ho hb hg hat
        refine hK.out _ _ ⟨(ck_ HB.out hw136_0), (ck_ HB.out hw136_1), (ck_ HB.out hw136_2), (ck_ HB.out hw136_3), (ck_ HB.out hw136_4), (ck_ HB.out hw136_5), (ck_ HB.out hw136_6), (ck_ HB.out hw136_7)⟩ (fun hHeld => ?_)
        clear hK K
        refine norm_ (a' := ?_) ?_ ?_
        rotate_left
        · show Act.put _ (some 23) _ = _
          simp only [Act.put, List.setIfInBounds_toArray, List.set_cons_zero, List.set_cons_succ, i64_w, i32_w]
          rfl
        exact norm_ (by first | (simp only [putAll, Act.put, List.setIfInBounds_toArray, List.set_cons_zero, List.set_cons_succ]; done) | (simp only [putAll, Act.put, List.setIfInBounds_toArray, List.set_cons_zero, List.set_cons_succ]; rfl)) (hJ5_6_13_19 (.slice Ao22 y137.length co22, v141, v144, v150) _ ⟨hHeld, (by (with_reducible repeat (first | apply Kd.V_alloc | apply Kd.V_drewN | apply Kd.V_drew)); exact Kd.V_mono HO139.out (fun _ hk => ⟨hk.2, hk.1⟩)), (R_up HO142.out), (by (with_reducible repeat (first | apply Kd.R_alloc | apply Kd.R_drewN | apply Kd.R_drew)); exact Kd.R_mono HO145.out (fun _ hk => hk.2)), (by (with_reducible repeat (first | apply Kd.V_alloc | apply Kd.V_drewN | apply Kd.V_drew)); exact Kd.V_mono HO151.out (fun _ hk => ⟨hk.2, hk.1⟩)), (HB_up HB.out)⟩)
      ·
       skip
       rintro ⟨v138, v141, v150⟩ w20 ⟨hS_, h0_, h1_, h2_, h3_⟩
       have n0_ : Aside0 (Kd.V (Kd.int .u8) 5 w20 w.heap.size (fun k_ => some k_ ≠ (v141 : Value).ownBlock) v138 y137) := ⟨h0_⟩
       have n1_ : Aside0 (Kd.R (Kd.int .u8) 5 w20 w.heap.size (fun _ => True) v141 y140) := ⟨h1_⟩
       have n2_ : Aside0 (Kd.V (Kd.int .u8) 5 w20 w.heap.size (fun k_ => some k_ ≠ (v141 : Value).ownBlock) v150 y149) := ⟨h2_⟩
       have n3_ : Aside0 (Below w.heap.size w w20) := ⟨h3_⟩
       clear HO135
       clear HB
       clear h0_ h1_ h2_ h3_
       have HO139 := n0_
       have HO142 := n1_
       have HO151 := n2_
       have HB := n3_
       clear n0_ n1_ n2_ n3_
       have hHeld : w20.cell? ad132 = some (.int .i64 ((rd_T37 l0 0).f0)) ∧ w20.cell? ⟨ad132.block, ad132.off + 1, none⟩ = some (.string ((rd_T37 l0 0).f1)) ∧ w20.cell? ⟨ad132.block, ad132.off + 2, none⟩ = some (.string ((rd_T37 l0 0).f2)) ∧ w20.cell? ⟨ad132.block, ad132.off + 3, none⟩ = some (.slice A136_3 ((rd_T37 l0 0).f3).length c136_3) ∧ w20.cell? ⟨ad132.block, ad132.off + 4, none⟩ = some (.int .i64 ((rd_T37 l0 0).f4)) ∧ w20.cell? ⟨ad132.block, ad132.off + 5, none⟩ = some (.int .i64 ((rd_T37 l0 0).f5)) ∧ w20.cell? ⟨ad132.block, ad132.off + 6, none⟩ = some (.int .i64 ((rd_T37 l0 0).f6)) ∧ w20.cell? ⟨ad132.block, ad132.off + 7, none⟩ = some (.slice A136_7 ((rd_T37 l0 0).f7).length c136_7) := hS_
       refine norm_ (a' := ?_) ?_ ?_
       rotate_left
       · simp only [putAll, Act.put, List.setIfInBounds_toArray, List.set_cons_zero, List.set_cons_succ]
         rfl
       refine one_ (i := 13) (N := some 30) #[true, true, true, true, true, true, true, true, true, true, true, true, true, true, false, true, true, true, true, true, false, false] rfl rfl (one_of HT_.out (by kernel_rfl)) (by decide) (fun K hK => ?_)
       refine Kd.R_lit_step (Kd.int .u8) _ 5 ?hg (N := 30) ?hd (xs := ([((((rd_T37 l0 0).f2).size : Int)) % 256] : List Int)) (inner := [.int .u8 (((((rd_T37 l0 0).f2).size : Int)) % 256)]) (ok := fun _ => True) (okp := fun _ => True) ?hr ?hp (fun _ hk => hk) trivial (Below.refl _ _) (Nat.le_refl _) (by simp) ?_; (case hd => rfl); (case hg => rfl); (case hr => first | (go_simp; done) | (go_simp; rfl)); (case hp => exact (Reps.one (show Kd.M (Kd.int .u8) _ _ _ (((((rd_T37 l0 0).f2).size : Int)) % 256) [.int .u8 (((((rd_T37 l0 0).f2).size : Int)) % 256)] from rfl) (Reps.none _ _)))
       intro v144 w21 ho22 hb hg_ hnew_
       clear hg_ hnew_
       (first | rw [← Ny143.out] at ho22 | (simp only [Int.reduceToNat] at ho22; rw [← Ny143.out] at ho22))
       have n0_ := Aside0.mk (Kd.V_elder' (V_up HO139.out) (Kd.R_base ho22) hb)
       have n1_ := Aside0.mk (Kd.R_elder' (R_up HO142.out) (Kd.R_base ho22) hb)
       have n2_ := Aside0.mk (Kd.V_elder' (V_up HO151.out) (Kd.R_base ho22) hb)
       have n3_ := Aside0.mk (Kd.R_lower (Kd.R_new' ho22 (Kd.R_lt (R_up HO142.out))) (below_size (HB_up HB.out)))
       have n4_ := Aside0.mk (below_step (HB_up HB.out) hb)
       clear HO139
       clear HO142
       clear HO151
       clear HB
       have HO139 := n0_
       have HO142 := n1_
       have HO151 := n2_
       have HO145 := n3_
       have HB := n4_
       clear n0_ n1_ n2_ n3_ n4_
       clear hb ho22
       refine hK.out _ _ ⟨(ck_ HB.out hw136_0), (ck_ HB.out hw136_1), (ck_ HB.out hw136_2), (ck_ HB.out hw136_3), (ck_ HB.out hw136_4), (ck_ HB.out hw136_5), (ck_ HB.out hw136_6), (ck_ HB.out hw136_7)⟩ (fun hHeld => ?_)
       clear hK K
       refine norm_ (a' := ?_) ?_ ?_
       rotate_left
       · show Act.put _ (some 30) _ = _
         simp only [Act.put, List.setIfInBounds_toArray, List.set_cons_zero, List.set_cons_succ, i64_w, i32_w]
         rfl
       exact norm_ (by first | (simp only [putAll, Act.put, List.setIfInBounds_toArray, List.set_cons_zero, List.set_cons_succ]; done) | (simp only [putAll, Act.put, List.setIfInBounds_toArray, List.set_cons_zero, List.set_cons_succ]; rfl)) (hJ5_6_13_19 (v138, v141, v144, v150) _ ⟨hHeld, (V_up HO139.out), (by (with_reducible repeat (first | apply Kd.R_alloc | apply Kd.R_drewN | apply Kd.R_drew)); exact Kd.R_mono HO142.out (fun _ hk => hk.2)), (by (with_reducible repeat (first | apply Kd.R_alloc | apply Kd.R_drewN | apply Kd.R_drew)); exact Kd.R_mono HO145.out (fun _ hk => hk.2)), (V_up HO151.out), (HB_up HB.out)⟩)
     ·
      skip
      rintro ⟨v138, v141, v144⟩ w20 ⟨hS_, h0_, h1_, h2_, h3_⟩
      have n0_ : Aside0 (Kd.V (Kd.int .u8) 5 w20 w.heap.size (fun k_ => some k_ ≠ (v141 : Value).ownBlock ∧ some k_ ≠ (v144 : Value).ownBlock) v138 y137) := ⟨h0_⟩
      have n1_ : Aside0 (Kd.R (Kd.int .u8) 5 w20 w.heap.size (fun k_ => some k_ ≠ (v144 : Value).ownBlock) v141 y140) := ⟨h1_⟩
      have n2_ : Aside0 (Kd.R (Kd.int .u8) 5 w20 w.heap.size (fun k_ => some k_ ≠ (v141 : Value).ownBlock) v144 y143) := ⟨h2_⟩
      have n3_ : Aside0 (Below w.heap.size w w20) := ⟨h3_⟩
      clear HO135
      clear HB
      clear h0_ h1_ h2_ h3_
      have HO139 := n0_
      have HO142 := n1_
      have HO145 := n2_
      have HB := n3_
      clear n0_ n1_ n2_ n3_
      have hHeld : w20.cell? ad132 = some (.int .i64 ((rd_T37 l0 0).f0)) ∧ w20.cell? ⟨ad132.block, ad132.off + 1, none⟩ = some (.string ((rd_T37 l0 0).f1)) ∧ w20.cell? ⟨ad132.block, ad132.off + 2, none⟩ = some (.string ((rd_T37 l0 0).f2)) ∧ w20.cell? ⟨ad132.block, ad132.off + 3, none⟩ = some (.slice A136_3 ((rd_T37 l0 0).f3).length c136_3) ∧ w20.cell? ⟨ad132.block, ad132.off + 4, none⟩ = some (.int .i64 ((rd_T37 l0 0).f4)) ∧ w20.cell? ⟨ad132.block, ad132.off + 5, none⟩ = some (.int .i64 ((rd_T37 l0 0).f5)) ∧ w20.cell? ⟨ad132.block, ad132.off + 6, none⟩ = some (.int .i64 ((rd_T37 l0 0).f6)) ∧ w20.cell? ⟨ad132.block, ad132.off + 7, none⟩ = some (.slice A136_7 ((rd_T37 l0 0).f7).length c136_7) := hS_
      refine norm_ (a' := ?_) ?_ ?_
      rotate_left
      · simp only [putAll, Act.put, List.setIfInBounds_toArray, List.set_cons_zero, List.set_cons_succ]
        rfl
      refine two_ (i := 14) (j := 19) (Ni := some 31) (Nj := some 36) #[true, true, true, true, true, true, true, true, true, true, true, true, true, true, true, true, true, true, true, false, false, false] #[true, true, true, true, true, true, true, true, true, true, true, true, true, true, false, true, true, true, true, true, false, false] rfl rfl rfl rfl (two_of HT_.out (by kernel_rfl)) (by decide) (by decide) (fun K hK => ?_) (fun K hK => ?_)
      ·
       skip
       obtain ⟨Ao22, co22, eo22⟩ := Kd.R_slice HO145.out
       (first | subst eo22 | (injection eo22 with f1_ f2_ f3_; have f4_ := f1_.symm; have f5_ := f3_.symm; clear f1_ f2_ f3_; subst f4_; subst f5_))
       refine Kd.R_append_rows_step (Kd.int .u8) (w0 := w) w.heap.size (by rfl) (.tmp 23) (.tmp 30) 24 5 (.int .u8 0) 1 rfl Try.underlying24 info5 rfl (by decide) (by omega) v141 y140 y143 _ _ _ (fun k_ => some k_ ≠ (.slice Ao22 y143.length co22 : Value).ownBlock) (fun _ => False) rfl rfl ?aO ?aR (fun _ _ h => h) (fun _ h => h.elim) ?aF ?aB ?aS ?aL ?_
       (case aR => exact C_up (Kd.R_reads' HO145.out).2.2)
       (case aB => exact (HB_up HB.out))
       (case aF => exact (fun k_ hk => Kd.fresh' (Kd.R_lt (R_up HO145.out)) k_ hk))
       (case aO => exact (R_up HO142.out))
       (case aS => exact (below_size (HB_up HB.out)))
       (case aL => have := LMc5.out; omega)
       intro v147 w21 ho hb hg hat
       rw [← Ny146.out] at ho
       have n0_ := Aside0.mk (Kd.V_afterv (ok := (fun k_ => some k_ ≠ (.slice Ao22 y143.length co22 : Value).ownBlock)) (by (with_reducible repeat (first | apply Kd.V_alloc | apply Kd.V_drewN | apply Kd.V_drew)); exact Kd.V_mono HO139.out (fun _ hk => ⟨hk.2, hk.1⟩)) hg hat)
       have n1_ := Aside0.mk (Kd.R_after (ok := (fun _ => True)) (by (with_reducible repeat (first | apply Kd.R_alloc | apply Kd.R_drewN | apply Kd.R_drew)); exact Kd.R_mono HO145.out (fun _ hk => ⟨trivial, hk⟩)) hg hat)
       have n2_ := Aside0.mk (hb)
       have n3_ := Aside0.mk (ho)
       clear HO139
       clear HO145
       clear HB
       clear HO142
       have HO139 := n0_
       have HO145 := n1_
       have HB := n2_
       have HO148 := n3_
       clear n0_ n1_ n2_ n3_
       clear ho hb hg hat
       refine hK.out _ _ ⟨(ck_ HB.out hw136_0), (ck_ HB.out hw136_1), (ck_ HB.out hw136_2), (ck_ HB.out hw136_3), (ck_ HB.out hw136_4), (ck_ HB.out hw136_5), (ck_ HB.out hw136_6), (ck_ HB.out hw136_7)⟩ (fun hHeld => ?_)
       clear hK K
       refine norm_ (a' := ?_) ?_ ?_
       rotate_left
       · show Act.put _ (some 31) _ = _
         simp only [Act.put, List.setIfInBounds_toArray, List.set_cons_zero, List.set_cons_succ, i64_w, i32_w]
         rfl
       exact norm_ (by first | (simp only [putAll, Act.put, List.setIfInBounds_toArray, List.set_cons_zero, List.set_cons_succ]; done) | (simp only [putAll, Act.put, List.setIfInBounds_toArray, List.set_cons_zero, List.set_cons_succ]; rfl)) (hJ5_6_13_14 (v138, v141, .slice Ao22 y143.length co22, v147) _ ⟨hHeld, (V_up HO139.out), (by (with_reducible repeat (first | apply Kd.R_alloc | apply Kd.R_drewN | apply Kd.R_drew)); exact Kd.R_mono HO145.out (fun _ hk => hk.2)), (R_up HO148.out), (HB_up HB.out)⟩)
      ·
       skip
       refine Kd.V_conv_step _ 5 (by rfl) (N' := 36) rfl 9 24 _ rfl Try.underlying9 Try.underlying24 Try.underlying5 ((rd_T37 l0 0).f2) rfl (by have := LMc6.out; omega) (Below.refl _ _) (Nat.le_refl _) ?_
       intro v150 w21 ho22 hb hg_ hnew_
       clear hg_ hnew_
       (first | rw [← Ny149.out] at ho22 | (simp only [Int.reduceToNat] at ho22; rw [← Ny149.out] at ho22))
       have n0_ := Aside0.mk (Kd.V_below (V_up HO139.out) hb)
       have n1_ := Aside0.mk (Kd.R_below (R_up HO142.out) hb)
       have n2_ := Aside0.mk (Kd.R_below (R_up HO145.out) hb)
       have n3_ := Aside0.mk (Kd.V_lower (Kd.V_mono (ok' := fun k_ => some k_ ≠ (v141 : Value).ownBlock ∧ some k_ ≠ (v144 : Value).ownBlock) ho22 (fun k_ hk_ => ⟨(Kd.fresh' (Kd.R_lt (R_up HO142.out)) k_ hk_), (Kd.fresh' (Kd.R_lt (R_up HO145.out)) k_ hk_)⟩)) (below_size (HB_up HB.out)))
       have n4_ := Aside0.mk (below_step (HB_up HB.out) hb)
       clear HO139
       clear HO142
       clear HO145
       clear HB
       have HO139 := n0_
       have HO142 := n1_
       have HO145 := n2_
       have HO151 := n3_
       have HB := n4_
       clear n0_ n1_ n2_ n3_ n4_
       clear hb ho22
       refine hK.out _ _ ⟨(ck_ HB.out hw136_0), (ck_ HB.out hw136_1), (ck_ HB.out hw136_2), (ck_ HB.out hw136_3), (ck_ HB.out hw136_4), (ck_ HB.out hw136_5), (ck_ HB.out hw136_6), (ck_ HB.out hw136_7)⟩ (fun hHeld => ?_)
       clear hK K
       refine norm_ (a' := ?_) ?_ ?_
       rotate_left
       · show Act.put _ (some 36) _ = _
         simp only [Act.put, List.setIfInBounds_toArray, List.set_cons_zero, List.set_cons_succ, i64_w, i32_w]
         rfl
       exact norm_ (by first | (simp only [putAll, Act.put, List.setIfInBounds_toArray, List.set_cons_zero, List.set_cons_succ]; done) | (simp only [putAll, Act.put, List.setIfInBounds_toArray, List.set_cons_zero, List.set_cons_succ]; rfl)) (hJ5_6_13_19 (v138, v141, v144, v150) _ ⟨hHeld, (V_up HO139.out), (R_up HO142.out), (R_up HO145.out), (V_up HO151.out), (HB_up HB.out)⟩)
    ·
     skip
     rintro ⟨v138, v141, v144, v150⟩ w22 ⟨hS_, h0_, h1_, h2_, h3_, h4_⟩
     have n0_ : Aside0 (Kd.V (Kd.int .u8) 5 w22 w.heap.size (fun k_ => some k_ ≠ (v141 : Value).ownBlock ∧ some k_ ≠ (v144 : Value).ownBlock) v138 y137) := ⟨h0_⟩
     have n1_ : Aside0 (Kd.R (Kd.int .u8) 5 w22 w.heap.size (fun k_ => some k_ ≠ (v144 : Value).ownBlock) v141 y140) := ⟨h1_⟩
     have n2_ : Aside0 (Kd.R (Kd.int .u8) 5 w22 w.heap.size (fun k_ => some k_ ≠ (v141 : Value).ownBlock) v144 y143) := ⟨h2_⟩
     have n3_ : Aside0 (Kd.V (Kd.int .u8) 5 w22 w.heap.size (fun k_ => some k_ ≠ (v141 : Value).ownBlock ∧ some k_ ≠ (v144 : Value).ownBlock) v150 y149) := ⟨h3_⟩
     have n4_ : Aside0 (Below w.heap.size w w22) := ⟨h4_⟩
     clear HO135
     clear HB
     clear h0_ h1_ h2_ h3_ h4_
     have HO139 := n0_
     have HO142 := n1_
     have HO145 := n2_
     have HO151 := n3_
     have HB := n4_
     clear n0_ n1_ n2_ n3_ n4_
     have hHeld : w22.cell? ad132 = some (.int .i64 ((rd_T37 l0 0).f0)) ∧ w22.cell? ⟨ad132.block, ad132.off + 1, none⟩ = some (.string ((rd_T37 l0 0).f1)) ∧ w22.cell? ⟨ad132.block, ad132.off + 2, none⟩ = some (.string ((rd_T37 l0 0).f2)) ∧ w22.cell? ⟨ad132.block, ad132.off + 3, none⟩ = some (.slice A136_3 ((rd_T37 l0 0).f3).length c136_3) ∧ w22.cell? ⟨ad132.block, ad132.off + 4, none⟩ = some (.int .i64 ((rd_T37 l0 0).f4)) ∧ w22.cell? ⟨ad132.block, ad132.off + 5, none⟩ = some (.int .i64 ((rd_T37 l0 0).f5)) ∧ w22.cell? ⟨ad132.block, ad132.off + 6, none⟩ = some (.int .i64 ((rd_T37 l0 0).f6)) ∧ w22.cell? ⟨ad132.block, ad132.off + 7, none⟩ = some (.slice A136_7 ((rd_T37 l0 0).f7).length c136_7) := hS_
     refine norm_ (a' := ?_) ?_ ?_
     rotate_left
     · simp only [putAll, Act.put, List.setIfInBounds_toArray, List.set_cons_zero, List.set_cons_succ]
       rfl
     refine one_ (i := 14) (N := some 31) #[true, true, true, true, true, true, true, true, true, true, true, true, true, true, true, true, true, true, true, true, false, false] rfl rfl (one_of HT_.out (by kernel_rfl)) (by decide) (fun K hK => ?_)
     obtain ⟨Ao24, co24, eo24⟩ := Kd.R_slice HO145.out
     (first | subst eo24 | (injection eo24 with f1_ f2_ f3_; have f4_ := f1_.symm; have f5_ := f3_.symm; clear f1_ f2_ f3_; subst f4_; subst f5_))
     refine Kd.R_append_rows_step (Kd.int .u8) (w0 := w) w.heap.size (by rfl) (.tmp 23) (.tmp 30) 24 5 (.int .u8 0) 1 rfl Try.underlying24 info5 rfl (by decide) (by omega) v141 y140 y143 _ _ _ (fun k_ => some k_ ≠ (.slice Ao24 y143.length co24 : Value).ownBlock) (fun _ => False) rfl rfl ?aO ?aR (fun _ _ h => h) (fun _ h => h.elim) ?aF ?aB ?aS ?aL ?_
     (case aR => exact C_up (Kd.R_reads' HO145.out).2.2)
     (case aB => exact (HB_up HB.out))
     (case aF => exact (fun k_ hk => Kd.fresh' (Kd.R_lt (R_up HO145.out)) k_ hk))
     (case aO => exact (R_up HO142.out))
     (case aS => exact (below_size (HB_up HB.out)))
     (case aL => have := LMc5.out; omega)
     intro v147 w23 ho hb hg hat
     rw [← Ny146.out] at ho
     have n0_ := Aside0.mk (Kd.V_afterv (ok := (fun k_ => some k_ ≠ (.slice Ao24 y143.length co24 : Value).ownBlock)) (by (with_reducible repeat (first | apply Kd.V_alloc | apply Kd.V_drewN | apply Kd.V_drew)); exact Kd.V_mono HO139.out (fun _ hk => ⟨hk.2, hk.1⟩)) hg hat)
     have n1_ := Aside0.mk (Kd.R_after (ok := (fun _ => True)) (by (with_reducible repeat (first | apply Kd.R_alloc | apply Kd.R_drewN | apply Kd.R_drew)); exact Kd.R_mono HO145.out (fun _ hk => ⟨trivial, hk⟩)) hg hat)
     have n2_ := Aside0.mk (Kd.V_afterv (ok := (fun k_ => some k_ ≠ (.slice Ao24 y143.length co24 : Value).ownBlock)) (by (with_reducible repeat (first | apply Kd.V_alloc | apply Kd.V_drewN | apply Kd.V_drew)); exact Kd.V_mono HO151.out (fun _ hk => ⟨hk.2, hk.1⟩)) hg hat)
     have n3_ := Aside0.mk (hb)
     have n4_ := Aside0.mk (ho)
     clear HO139
     clear HO145
     clear HO151
     clear HB
     clear HO142
     have HO139 := n0_
     have HO145 := n1_
     have HO151 := n2_
     have HB := n3_
     have HO148 := n4_
     clear n0_ n1_ n2_ n3_ n4_
     clear ho hb hg hat
     refine hK.out _ _ ⟨(ck_ HB.out hw136_0), (ck_ HB.out hw136_1), (ck_ HB.out hw136_2), (ck_ HB.out hw136_3), (ck_ HB.out hw136_4), (ck_ HB.out hw136_5), (ck_ HB.out hw136_6), (ck_ HB.out hw136_7)⟩ (fun hHeld => ?_)
     clear hK K
     refine norm_ (a' := ?_) ?_ ?_
     rotate_left
     · show Act.put _ (some 31) _ = _
       simp only [Act.put, List.setIfInBounds_toArray, List.set_cons_zero, List.set_cons_succ, i64_w, i32_w]
       rfl
     exact norm_ (by first | (simp only [putAll, Act.put, List.setIfInBounds_toArray, List.set_cons_zero, List.set_cons_succ]; done) | (simp only [putAll, Act.put, List.setIfInBounds_toArray, List.set_cons_zero, List.set_cons_succ]; rfl)) (hJ5_6_13_14_19 (v138, v141, .slice Ao24 y143.length co24, v147, v150) _ ⟨hHeld, (V_up HO139.out), (by (with_reducible repeat (first | apply Kd.R_alloc | apply Kd.R_drewN | apply Kd.R_drew)); exact Kd.R_mono HO145.out (fun _ hk => hk.2)), (R_up HO148.out), (V_up HO151.out), (HB_up HB.out)⟩)
   ·
    skip
    rintro ⟨v138, v141, v144, v147⟩ w22 ⟨hS_, h0_, h1_, h2_, h3_⟩
    have n0_ : Aside0 (Kd.V (Kd.int .u8) 5 w22 w.heap.size (fun k_ => some k_ ≠ (v144 : Value).ownBlock ∧ some k_ ≠ (v147 : Value).ownBlock) v138 y137) := ⟨h0_⟩
    have n1_ : Aside0 (Kd.R (Kd.int .u8) 5 w22 w.heap.size (fun k_ => some k_ ≠ (v147 : Value).ownBlock) v144 y143) := ⟨h1_⟩
    have n2_ : Aside0 (Kd.R (Kd.int .u8) 5 w22 w.heap.size (fun k_ => some k_ ≠ (v144 : Value).ownBlock) v147 y146) := ⟨h2_⟩
    have n3_ : Aside0 (Below w.heap.size w w22) := ⟨h3_⟩
    clear HO135
    clear HB
    clear h0_ h1_ h2_ h3_
    have HO139 := n0_
    have HO145 := n1_
    have HO148 := n2_
    have HB := n3_
    clear n0_ n1_ n2_ n3_
    have hHeld : w22.cell? ad132 = some (.int .i64 ((rd_T37 l0 0).f0)) ∧ w22.cell? ⟨ad132.block, ad132.off + 1, none⟩ = some (.string ((rd_T37 l0 0).f1)) ∧ w22.cell? ⟨ad132.block, ad132.off + 2, none⟩ = some (.string ((rd_T37 l0 0).f2)) ∧ w22.cell? ⟨ad132.block, ad132.off + 3, none⟩ = some (.slice A136_3 ((rd_T37 l0 0).f3).length c136_3) ∧ w22.cell? ⟨ad132.block, ad132.off + 4, none⟩ = some (.int .i64 ((rd_T37 l0 0).f4)) ∧ w22.cell? ⟨ad132.block, ad132.off + 5, none⟩ = some (.int .i64 ((rd_T37 l0 0).f5)) ∧ w22.cell? ⟨ad132.block, ad132.off + 6, none⟩ = some (.int .i64 ((rd_T37 l0 0).f6)) ∧ w22.cell? ⟨ad132.block, ad132.off + 7, none⟩ = some (.slice A136_7 ((rd_T37 l0 0).f7).length c136_7) := hS_
    refine norm_ (a' := ?_) ?_ ?_
    rotate_left
    · simp only [putAll, Act.put, List.setIfInBounds_toArray, List.set_cons_zero, List.set_cons_succ]
      rfl
    refine one_ (i := 19) (N := some 36) #[true, true, true, true, true, true, true, true, true, true, true, true, true, true, true, true, true, true, true, true, false, false] rfl rfl (one_of HT_.out (by kernel_rfl)) (by decide) (fun K hK => ?_)
    refine Kd.V_conv_step _ 5 (by rfl) (N' := 36) rfl 9 24 _ rfl Try.underlying9 Try.underlying24 Try.underlying5 ((rd_T37 l0 0).f2) rfl (by have := LMc6.out; omega) (Below.refl _ _) (Nat.le_refl _) ?_
    intro v150 w23 ho24 hb hg_ hnew_
    clear hg_ hnew_
    (first | rw [← Ny149.out] at ho24 | (simp only [Int.reduceToNat] at ho24; rw [← Ny149.out] at ho24))
    have n0_ := Aside0.mk (Kd.V_below (V_up HO139.out) hb)
    have n1_ := Aside0.mk (Kd.R_below (R_up HO145.out) hb)
    have n2_ := Aside0.mk (Kd.R_below (R_up HO148.out) hb)
    have n3_ := Aside0.mk (Kd.V_lower (Kd.V_mono (ok' := fun k_ => some k_ ≠ (v144 : Value).ownBlock ∧ some k_ ≠ (v147 : Value).ownBlock) ho24 (fun k_ hk_ => ⟨(Kd.fresh' (Kd.R_lt (R_up HO145.out)) k_ hk_), (Kd.fresh' (Kd.R_lt (R_up HO148.out)) k_ hk_)⟩)) (below_size (HB_up HB.out)))
    have n4_ := Aside0.mk (below_step (HB_up HB.out) hb)
    clear HO139
    clear HO145
    clear HO148
    clear HB
    have HO139 := n0_
    have HO145 := n1_
    have HO148 := n2_
    have HO151 := n3_
    have HB := n4_
    clear n0_ n1_ n2_ n3_ n4_
    clear hb ho24
    refine hK.out _ _ ⟨(ck_ HB.out hw136_0), (ck_ HB.out hw136_1), (ck_ HB.out hw136_2), (ck_ HB.out hw136_3), (ck_ HB.out hw136_4), (ck_ HB.out hw136_5), (ck_ HB.out hw136_6), (ck_ HB.out hw136_7)⟩ (fun hHeld => ?_)
    clear hK K
    refine norm_ (a' := ?_) ?_ ?_
    rotate_left
    · show Act.put _ (some 36) _ = _
      simp only [Act.put, List.setIfInBounds_toArray, List.set_cons_zero, List.set_cons_succ, i64_w, i32_w]
      rfl
    exact norm_ (by first | (simp only [putAll, Act.put, List.setIfInBounds_toArray, List.set_cons_zero, List.set_cons_succ]; done) | (simp only [putAll, Act.put, List.setIfInBounds_toArray, List.set_cons_zero, List.set_cons_succ]; rfl)) (hJ5_6_13_14_19 (v138, v141, v144, v147, v150) _ ⟨hHeld, (V_up HO139.out), (R_up HO145.out), (R_up HO148.out), (V_up HO151.out), (HB_up HB.out)⟩)
  rintro ⟨v138, v141, v144, v147, v150⟩ w24 ⟨hS_, h0_, h1_, h2_, h3_, h4_⟩
  have n0_ : Aside0 (Kd.V (Kd.int .u8) 5 w24 w.heap.size (fun k_ => some k_ ≠ (v144 : Value).ownBlock ∧ some k_ ≠ (v147 : Value).ownBlock) v138 y137) := ⟨h0_⟩
  have n1_ : Aside0 (Kd.R (Kd.int .u8) 5 w24 w.heap.size (fun k_ => some k_ ≠ (v147 : Value).ownBlock) v144 y143) := ⟨h1_⟩
  have n2_ : Aside0 (Kd.R (Kd.int .u8) 5 w24 w.heap.size (fun k_ => some k_ ≠ (v144 : Value).ownBlock) v147 y146) := ⟨h2_⟩
  have n3_ : Aside0 (Kd.V (Kd.int .u8) 5 w24 w.heap.size (fun k_ => some k_ ≠ (v144 : Value).ownBlock ∧ some k_ ≠ (v147 : Value).ownBlock) v150 y149) := ⟨h3_⟩
  have n4_ : Aside0 (Below w.heap.size w w24) := ⟨h4_⟩
  clear HO135
  clear HB
  clear h0_ h1_ h2_ h3_ h4_
  have HO139 := n0_
  have HO145 := n1_
  have HO148 := n2_
  have HO151 := n3_
  have HB := n4_
  clear n0_ n1_ n2_ n3_ n4_
  have hHeld : w24.cell? ad132 = some (.int .i64 ((rd_T37 l0 0).f0)) ∧ w24.cell? ⟨ad132.block, ad132.off + 1, none⟩ = some (.string ((rd_T37 l0 0).f1)) ∧ w24.cell? ⟨ad132.block, ad132.off + 2, none⟩ = some (.string ((rd_T37 l0 0).f2)) ∧ w24.cell? ⟨ad132.block, ad132.off + 3, none⟩ = some (.slice A136_3 ((rd_T37 l0 0).f3).length c136_3) ∧ w24.cell? ⟨ad132.block, ad132.off + 4, none⟩ = some (.int .i64 ((rd_T37 l0 0).f4)) ∧ w24.cell? ⟨ad132.block, ad132.off + 5, none⟩ = some (.int .i64 ((rd_T37 l0 0).f5)) ∧ w24.cell? ⟨ad132.block, ad132.off + 6, none⟩ = some (.int .i64 ((rd_T37 l0 0).f6)) ∧ w24.cell? ⟨ad132.block, ad132.off + 7, none⟩ = some (.slice A136_7 ((rd_T37 l0 0).f7).length c136_7) := hS_
  obtain ⟨Ao26, co26, eo26⟩ := Kd.V_slice HO151.out
  (first | subst eo26 | (injection eo26 with f1_ f2_ f3_; have f4_ := f1_.symm; have f5_ := f3_.symm; clear f1_ f2_ f3_; subst f4_; subst f5_))
  refine norm_ (a' := ?_) ?_ ?_
  rotate_left
  · simp only [putAll, Act.put, List.setIfInBounds_toArray, List.set_cons_zero, List.set_cons_succ]
    rfl
  refine one_ (i := 20) (N := some 37) #[true, true, true, true, true, true, true, true, true, true, true, true, true, true, true, true, true, true, true, true, true, false] rfl rfl (one_of HT_.out (by kernel_rfl)) (by decide) (fun K hK => ?_)
  refine Kd.R_append_rows_step (Kd.int .u8) (w0 := w) w.heap.size (by rfl) (.tmp 31) (.tmp 36) 24 5 (.int .u8 0) 1 rfl Try.underlying24 info5 rfl (by decide) (by omega) v147 y146 y149 _ _ _ (fun k_ => some k_ ≠ (v144 : Value).ownBlock) (fun _ => False) rfl rfl ?aO ?aR (fun _ _ h => h) (fun _ h => h.elim) ?aF ?aB ?aS ?aL ?_
  (case aR => exact C_up (Kd.V_reads' HO151.out).2.2)
  (case aB => exact (HB_up HB.out))
  (case aF => exact (fun k_ hk => Kd.fresh' (Kd.R_lt (R_up HO145.out)) k_ hk))
  (case aO => exact (R_up HO148.out))
  (case aS => exact (below_size (HB_up HB.out)))
  (case aL => have := LMc7.out; omega)
  intro v153 w25 ho hb hg hat
  rw [← Ny152.out] at ho
  have n0_ := Aside0.mk (Kd.V_afterv (ok := (fun k_ => some k_ ≠ (v144 : Value).ownBlock)) (V_up HO139.out) hg hat)
  have n1_ := Aside0.mk (Kd.R_after (ok := (fun _ => True)) (by (with_reducible repeat (first | apply Kd.R_alloc | apply Kd.R_drewN | apply Kd.R_drew)); exact Kd.R_mono HO145.out (fun _ hk => ⟨trivial, hk⟩)) hg hat)
  have n2_ := Aside0.mk (Kd.V_afterv (ok := (fun k_ => some k_ ≠ (v144 : Value).ownBlock)) (V_up HO151.out) hg hat)
  have n3_ := Aside0.mk (hb)
  have n4_ := Aside0.mk (ho)
  clear HO139
  clear HO145
  clear HO151
  clear HB
  clear HO148
  have HO139 := n0_
  have HO145 := n1_
  have HO151 := n2_
  have HB := n3_
  have HO154 := n4_
  clear n0_ n1_ n2_ n3_ n4_
  clear ho hb hg hat
  refine hK.out _ _ ⟨(ck_ HB.out hw136_0), (ck_ HB.out hw136_1), (ck_ HB.out hw136_2), (ck_ HB.out hw136_3), (ck_ HB.out hw136_4), (ck_ HB.out hw136_5), (ck_ HB.out hw136_6), (ck_ HB.out hw136_7)⟩ (fun hHeld => ?_)
  clear hK K
  refine norm_ (a' := ?_) ?_ ?_
  rotate_left
  · show Act.put _ (some 37) _ = _
    simp only [Act.put, List.setIfInBounds_toArray, List.set_cons_zero, List.set_cons_succ, i64_w, i32_w]
    rfl
  refine pure_ (i := 21) (N := some 3) (v := ?_) (a' := ?_) #[true, true, true, true, true, true, true, true, true, true, true, true, true, true, true, true, true, true, true, true, true, true] rfl rfl (any_of HT_.out (by kernel_rfl)) (fun _ _ _ h => h) (Or.inl ⟨by rfl, ?_⟩) ?_ ?_; rotate_left
  · intro w'; go_simp; all_goals (first | with_reducible rfl | (simp [Instr.field, go_sem]; rfl))
  rotate_left
  · simp only [Act.put, List.setIfInBounds_toArray, List.set_cons_zero, List.set_cons_succ, i64_w, i32_w]; rfl
  refine done_ (done_of HT_.out (by kernel_rfl)) ?_
  have p155 : 0 ≤ (0 : Int) := (by omega)
  have q155 : 0 < (l0.length : Int) := od_
  obtain ⟨ad155, A155_3, c155_3, A155_7, c155_7, e155, hx155_0, hx155_1, hx155_2, hx155_3, hx155_4, hx155_5, hx155_6, hx155_7, hl155_3, hi155_3, hl155_7, hi155_7⟩ := at_T37 HR0.out 0 p155 q155
  obtain rfl : ad132 = ad155 := (by injection e155)
  have qi155 : (0 < l0.length) = True := eq_true (by omega)
  (try simp only [Int.toNat_zero, Nat.zero_mul, Addr.add_zero'] at hx155_0 hx155_1 hx155_2 hx155_3 hx155_4 hx155_5 hx155_6 hx155_7)
  replace hx155_0 := ck_ HB.out hx155_0
  replace hx155_1 := ck_ HB.out hx155_1
  replace hx155_2 := ck_ HB.out hx155_2
  replace hx155_3 := ck_ HB.out hx155_3
  replace hx155_4 := ck_ HB.out hx155_4
  replace hx155_5 := ck_ HB.out hx155_5
  replace hx155_6 := ck_ HB.out hx155_6
  replace hx155_7 := ck_ HB.out hx155_7
  have HR155_3 := Aside0.mk hi155_3
  have HC155_3 := Aside0.mk hl155_3
  clear hi155_3 hl155_3
  have HR155_7 := Aside0.mk hi155_7
  have HC155_7 := Aside0.mk hl155_7
  clear hi155_7 hl155_7
  replace p155 := eq_true p155
  replace q155 := eq_true q155
  try go_wp2_with (first | ((with_reducible refine gate_dst (N := 45) rfl ?_); refine Kd.R_lit (Kd.int .u8) _ 5 ?hg (N := 45) ?hd (xs := ([((((rd_T37 l0 0).f3).length : Int)) % 256] : List Int)) (inner := [.int .u8 (((((rd_T37 l0 0).f3).length : Int)) % 256)]) (ok := fun _ => True) (okp := fun _ => True) ?hr ?hp (fun _ hk => hk) trivial (Below.refl _ _) (Nat.le_refl _) (by simp) ?_; (case hd => rfl); (case hg => rfl); (case hr => first | (go_simp; done) | (go_simp; rfl)); (case hp => exact (Reps.one (show Kd.M (Kd.int .u8) _ _ _ (((((rd_T37 l0 0).f3).length : Int)) % 256) [.int .u8 (((((rd_T37 l0 0).f3).length : Int)) % 256)] from rfl) (Reps.none _ _))); intro v157 w27 ho28 hb hg_ hnew_; clear hg_ hnew_; (first | rw [← Ny156.out] at ho28 | (simp only [Int.reduceToNat] at ho28; rw [← Ny156.out] at ho28)); have n0_ := Aside0.mk (Kd.V_elder' (V_up HO139.out) (Kd.R_base ho28) hb); have n1_ := Aside0.mk (Kd.R_elder' (R_up HO145.out) (Kd.R_base ho28) hb); have n2_ := Aside0.mk (Kd.V_elder' (V_up HO151.out) (Kd.R_base ho28) hb); have n3_ := Aside0.mk (Kd.R_elder' (R_up HO154.out) (Kd.R_base ho28) hb); have n4_ := Aside0.mk (Kd.R_lower (Kd.R_new' (Kd.R_new' ho28 (Kd.R_lt (R_up HO145.out))) (Kd.R_lt (R_up HO154.out))) (below_size (HB_up HB.out))); have n5_ := Aside0.mk (below_step (HB_up HB.out) hb); clear HO139; clear HO145; clear HO151; clear HO154; clear HB; have HO139 := n0_; have HO145 := n1_; have HO151 := n2_; have HO154 := n3_; have HO158 := n4_; have HB := n5_; clear n0_ n1_ n2_ n3_ n4_ n5_; clear hb ho28; obtain ⟨Ao30, co30, eo30⟩ := Kd.R_slice HO158.out; subst eo30) | ((with_reducible refine gate_builtin (b := .append) (xs := #[.tmp 38, .tmp 45]) rfl ?_); at_builtin; refine Kd.R_append_rows (Kd.int .u8) (w0 := w) w.heap.size rfl (.tmp 38) (.tmp 45) 24 5 (.int .u8 0) 1 rfl Try.underlying24 info5 rfl (by decide) (by omega) v153 y152 y156 _ _ _ (fun k_ => some k_ ≠ (v144 : Value).ownBlock ∧ some k_ ≠ (.slice Ao30 y156.length co30 : Value).ownBlock) (fun _ => False) rfl rfl ?aO ?aR (fun _ _ h => h) (fun _ h => h.elim) ?aF ?aB ?aS ?aL ?_; (case aR => exact C_up (Kd.R_reads' HO158.out).2.2); (case aB => exact (HB_up HB.out)); (case aF => exact (fun k_ hk => ⟨Kd.fresh' (Kd.R_lt (R_up HO145.out)) k_ hk, Kd.fresh' (Kd.R_lt (R_up HO158.out)) k_ hk⟩)); (case aO => exact (R_up HO154.out)); (case aS => exact (below_size (HB_up HB.out))); (case aL => have := LMc8.out; omega); intro v160 w29 ho hb hg hat; rw [← Ny159.out] at ho; have n0_ := Aside0.mk (Kd.V_afterv (ok := (fun k_ => some k_ ≠ (v144 : Value).ownBlock ∧ some k_ ≠ (.slice Ao30 y156.length co30 : Value).ownBlock)) (by (with_reducible repeat (first | apply Kd.V_alloc | apply Kd.V_drewN | apply Kd.V_drew)); exact Kd.V_mono HO139.out (fun _ hk => ⟨⟨hk.1.1, hk.2⟩, hk.1.2⟩)) hg hat); have n1_ := Aside0.mk (Kd.R_after (ok := (fun k_ => some k_ ≠ (.slice Ao30 y156.length co30 : Value).ownBlock)) (by (with_reducible repeat (first | apply Kd.R_alloc | apply Kd.R_drewN | apply Kd.R_drew)); exact Kd.R_mono HO145.out (fun _ hk => ⟨hk.2, hk.1.2⟩)) hg hat); have n2_ := Aside0.mk (Kd.V_afterv (ok := (fun k_ => some k_ ≠ (v144 : Value).ownBlock ∧ some k_ ≠ (.slice Ao30 y156.length co30 : Value).ownBlock)) (by (with_reducible repeat (first | apply Kd.V_alloc | apply Kd.V_drewN | apply Kd.V_drew)); exact Kd.V_mono HO151.out (fun _ hk => ⟨⟨hk.1.1, hk.2⟩, hk.1.2⟩)) hg hat); have n3_ := Aside0.mk (Kd.R_after (ok := (fun k_ => some k_ ≠ (v144 : Value).ownBlock)) (by (with_reducible repeat (first | apply Kd.R_alloc | apply Kd.R_drewN | apply Kd.R_drew)); exact Kd.R_mono HO158.out (fun _ hk => ⟨hk.1.2, hk.2⟩)) hg hat); have n4_ := Aside0.mk (hb); have n5_ := Aside0.mk (ho); clear HO139; clear HO145; clear HO151; clear HO158; clear HB; clear HO154; have HO139 := n0_; have HO145 := n1_; have HO151 := n2_; have HO158 := n3_; have HB := n4_; have HO161 := n5_; clear n0_ n1_ n2_ n3_ n4_ n5_; clear ho hb hg hat))
  go_loopg [3, 4] k (fun kq v3 v4 w' => ∃ (x3_1 : List Int) (x4_1 : Int), v4 = .int .i64 x4_1 ∧ Aside0 (spec_l9Pack.l0 kq l0 x3_1 x4_1 = some r) ∧ Aside0 (kq ≤ k) ∧ Aside0 (Kd.R (Kd.int .u8) 5 w' w.heap.size (fun _ => True) v3 x3_1) ∧ Aside0 (Below w.heap.size w w'))
  case atStart => exact ⟨(y159), (0), vl_, H', ⟨Nat.le_refl _⟩, ⟨by (with_reducible repeat (first | apply Kd.R_alloc | apply Kd.R_drewN | apply Kd.R_drew)); exact Kd.R_mono HO161.out (fun _ hk => trivial)⟩, ⟨hb_⟩⟩
  case round =>
   clear H'
   try clear q1
   try clear hx1
   try clear qi1
   try clear c4
   try clear c5
   try clear c6
   try clear c7
   try clear c8
   try clear q15
   try clear hx15
   try clear qi15
   try clear hx155_0
   try clear hx155_1
   try clear hx155_2
   try clear hx155_3
   try clear hx155_4
   try clear hx155_5
   try clear hx155_6
   try clear hx155_7
   try clear p155
   try clear q155
   obtain ⟨x3_1, x4_1, rfl, HA, HK1, HO_3, HB⟩ := hrel
   cases gk with
   | zero => exact absurd HA.out (by simp [spec_l9Pack.l0])
   | succ k1 =>
     have H := HA.out
     clear HA
     simp only [spec_l9Pack.l0] at H
     by_cases c31 : 0 < (l0.length : Int)
     case neg => rw [if_neg c31] at H; exact absurd H (by simp)
     rw [if_pos c31] at H
     have c31b0 : decide (0 < (l0.length : Int)) = true := decide_eq_true c31
     have c31b1 : decide (0 < l0.length) = true := decide_eq_true (by omega)
     clear c31
     by_cases c32 : x4_1 < (((rd_T37 l0 0).f3).length : Int)
     ·
      rw [if_pos c32] at H
      have c32b0 : decide (x4_1 < (((rd_T37 l0 0).f3).length : Int)) = true := decide_eq_true c32
      clear c32
      by_cases c33 : 0 ≤ x4_1
      case neg => rw [if_neg c33] at H; exact absurd H (by simp)
      rw [if_pos c33] at H
      have c33b0 : decide (0 ≤ x4_1) = true := decide_eq_true c33
      clear c33
      replace H := Option.bind_eq_some_iff.mp H
      obtain ⟨t165, A340, H⟩ := H
      (try dsimp only at H)
      have A34 := Aside0.mk A340
      clear A340
      by_cases c35 : x3_1.length + t165.length < 140737488355328
      case neg => rw [if_neg c35] at H; exact absurd H (by simp)
      rw [if_pos c35] at H
      have LMc35 := Aside0.mk c35
      clear c35
      obtain ⟨y168, hy168⟩ : ∃ y_ : List Int, y_ = (x3_1 ++ t165) := ⟨_, rfl⟩
      replace H : (spec_l9Pack.l0 k1 l0 y168 (wrap64 (x4_1 + 1))) = some r := by first | (rw [hy168]; with_reducible exact H) | (have H2_ := (Option.bind_some _ _).symm.trans H; rw [hy168]; with_reducible exact H2_) | (have H2_ := (Option.bind_some _ _).symm.trans H; with_reducible exact H2_) | with_reducible exact H | (rw [hy168]; exact H) | exact H
      have Ny168 := Aside0.mk hy168
      clear hy168
      have H' := Aside0.mk H
      clear H
      have p162 : 0 ≤ (0 : Int) := (by omega)
      have q162 : 0 < (l0.length : Int) := od_
      obtain ⟨ad162, A162_3, c162_3, A162_7, c162_7, e162, hx162_0, hx162_1, hx162_2, hx162_3, hx162_4, hx162_5, hx162_6, hx162_7, hl162_3, hi162_3, hl162_7, hi162_7⟩ := at_T37 HR0.out 0 p162 q162
      obtain rfl : ad132 = ad162 := (by injection e162)
      have qi162 : (0 < l0.length) = True := eq_true (by omega)
      (try simp only [Int.toNat_zero, Nat.zero_mul, Addr.add_zero'] at hx162_0 hx162_1 hx162_2 hx162_3 hx162_4 hx162_5 hx162_6 hx162_7)
      replace hx162_0 := ck_ HB.out hx162_0
      replace hx162_1 := ck_ HB.out hx162_1
      replace hx162_2 := ck_ HB.out hx162_2
      replace hx162_3 := ck_ HB.out hx162_3
      replace hx162_4 := ck_ HB.out hx162_4
      replace hx162_5 := ck_ HB.out hx162_5
      replace hx162_6 := ck_ HB.out hx162_6
      replace hx162_7 := ck_ HB.out hx162_7
      have HR162_3 := Aside0.mk hi162_3
      have HC162_3 := Aside0.mk hl162_3
      clear hi162_3 hl162_3
      have HR162_7 := Aside0.mk hi162_7
      have HC162_7 := Aside0.mk hl162_7
      clear hi162_7 hl162_7
      replace p162 := eq_true p162
      replace q162 := eq_true q162
      (try clear hx155_0 hx155_1 hx155_2 hx155_3 hx155_4 hx155_5 hx155_6 hx155_7)
      have p164 : 0 ≤ (x4_1 : Int) := od_
      have q164 : x4_1 < (((rd_T37 l0 0).f3).length : Int) := od_
      obtain ⟨ad164, e164, hx164_0⟩ := Kd.at_int HR162_3.out x4_1 p164 q164
      cases e164
      replace hx164_0 := ck_ HB.out hx164_0
      replace p164 := eq_true p164
      replace q164 := eq_true q164
      go_wp2_with (first | ((with_reducible refine gate_callee (f := 73) rfl ?_); refine goesY_ (some 64) Try.func73 #[.int .i64 (rd ((rd_T37 l0 0).f3) x4_1)] rfl ?_; (with_reducible refine (spec_l9Two.calls (rd ((rd_T37 l0 0).f3) x4_1) t165 _ A34.out).mono ?_); rintro e w36 ⟨v166, rfl, ho0, hb⟩; refine ⟨_, rfl, ?_⟩; have n0_ := Aside0.mk (Kd.R_elder' (R_up HO_3.out) (Kd.R_base ho0) hb); have n1_ := Aside0.mk (Kd.R_lower (Kd.R_new' ho0 (Kd.R_lt (R_up HO_3.out))) (below_size (HB_up HB.out))); have n2_ := Aside0.mk (below_step (HB_up HB.out) hb); clear HO_3; clear HB; have HO_3 := n0_; have HO167 := n1_; have HB := n2_; clear n0_ n1_ n2_; (try clear hb); (try clear hb2); (try clear hk); (try clear hi); (try clear ho0); obtain ⟨Ao38, co38, eo38⟩ := Kd.R_slice HO167.out; subst eo38) | ((with_reducible refine gate_builtin (b := .append) (xs := #[.tmp 56, .tmp 64]) rfl ?_); at_builtin; refine Kd.R_append_rows (Kd.int .u8) (w0 := w) w.heap.size rfl (.tmp 56) (.tmp 64) 24 5 (.int .u8 0) 1 rfl Try.underlying24 info5 rfl (by decide) (by omega) u3 x3_1 t165 _ _ _ (fun k_ => some k_ ≠ (.slice Ao38 t165.length co38 : Value).ownBlock) (fun _ => False) rfl rfl ?aO ?aR (fun _ _ h => h) (fun _ h => h.elim) ?aF ?aB ?aS ?aL ?_; (case aR => exact C_up (Kd.R_reads' HO167.out).2.2); (case aB => exact (HB_up HB.out)); (case aF => exact (fun k_ hk => Kd.fresh' (Kd.R_lt (R_up HO167.out)) k_ hk)); (case aO => exact (by (with_reducible repeat (first | apply Kd.R_alloc | apply Kd.R_drewN | apply Kd.R_drew)); exact Kd.R_mono HO_3.out (fun _ hk => hk.2))); (case aS => exact (below_size (HB_up HB.out))); (case aL => have := LMc35.out; omega); intro v169 w37 ho hb hg hat; rw [← Ny168.out] at ho; have n0_ := Aside0.mk (Kd.R_after (ok := (fun _ => True)) (R_up HO167.out) hg hat); have n1_ := Aside0.mk (hb); have n2_ := Aside0.mk (ho); clear HO167; clear HB; clear HO_3; have HO167 := n0_; have HB := n1_; have HO170 := n2_; clear n0_ n1_ n2_; clear ho hb hg hat))
      go_roundg k1
      case measure => have := HK1.out; omega
      case rel => exact ⟨(y168), (wrap64 (x4_1 + 1)), vl_, H', ⟨by have := HK1.out; omega⟩, ⟨by (with_reducible repeat (first | apply Kd.R_alloc | apply Kd.R_drewN | apply Kd.R_drew)); exact Kd.R_mono HO170.out (fun _ hk => trivial)⟩, ⟨hb_⟩⟩
     ·
      rw [if_neg c32] at H
      have c32b0 : decide (x4_1 < (((rd_T37 l0 0).f3).length : Int)) = false := decide_eq_false c32
      clear c32
      obtain ⟨y172, hy172⟩ : ∃ y_ : List Int, y_ = (([((rd_T37 l0 0).f4) % 256, ((rd_T37 l0 0).f5) % 256] : List Int)) := ⟨_, rfl⟩
      replace H : (if x3_1.length + y172.length < 140737488355328 then ((some (x3_1 ++ y172 : List Int)).bind fun y175 => ((spec_l9Two.f ((rd_T37 l0 0).f6)).bind fun t178 => (if y175.length + t178.length < 140737488355328 then ((some (y175 ++ t178 : List Int)).bind fun y181 => ((spec_l9Two.f (((rd_T37 l0 0).f7).length : Int)).bind fun t185 => (if y181.length + t185.length < 140737488355328 then ((some (y181 ++ t185 : List Int)).bind fun y188 => (if y188.length + ((rd_T37 l0 0).f7).length < 140737488355328 then ((some (y188 ++ ((rd_T37 l0 0).f7) : List Int)).bind fun y191 => ((spec_l9Two.f (wrap64 ((y191.length : Int) + 2))).bind fun t194 => ((some (cpy y191 t194 : List Int)).bind fun y197 => ((spec_l9Sum.f k1 y197).bind fun t200 => ((spec_l9Two.f t200).bind fun t201 => (if y197.length + t201.length < 140737488355328 then (some (y197 ++ t201)) else (none))))))) else (none))) else (none)))) else (none)))) else (none)) = some r := by first | (rw [hy172]; with_reducible exact H) | (have H2_ := (Option.bind_some _ _).symm.trans H; rw [hy172]; with_reducible exact H2_) | (have H2_ := (Option.bind_some _ _).symm.trans H; with_reducible exact H2_) | with_reducible exact H | (rw [hy172]; exact H) | exact H
      have Ny172 := Aside0.mk hy172
      clear hy172
      by_cases c39 : x3_1.length + y172.length < 140737488355328
      case neg => rw [if_neg c39] at H; exact absurd H (by simp)
      rw [if_pos c39] at H
      have LMc39 := Aside0.mk c39
      clear c39
      obtain ⟨y175, hy175⟩ : ∃ y_ : List Int, y_ = (x3_1 ++ y172) := ⟨_, rfl⟩
      replace H : ((spec_l9Two.f ((rd_T37 l0 0).f6)).bind fun t178 => (if y175.length + t178.length < 140737488355328 then ((some (y175 ++ t178 : List Int)).bind fun y181 => ((spec_l9Two.f (((rd_T37 l0 0).f7).length : Int)).bind fun t185 => (if y181.length + t185.length < 140737488355328 then ((some (y181 ++ t185 : List Int)).bind fun y188 => (if y188.length + ((rd_T37 l0 0).f7).length < 140737488355328 then ((some (y188 ++ ((rd_T37 l0 0).f7) : List Int)).bind fun y191 => ((spec_l9Two.f (wrap64 ((y191.length : Int) + 2))).bind fun t194 => ((some (cpy y191 t194 : List Int)).bind fun y197 => ((spec_l9Sum.f k1 y197).bind fun t200 => ((spec_l9Two.f t200).bind fun t201 => (if y197.length + t201.length < 140737488355328 then (some (y197 ++ t201)) else (none))))))) else (none))) else (none)))) else (none))) = some r := by first | (rw [hy175]; with_reducible exact H) | (have H2_ := (Option.bind_some _ _).symm.trans H; rw [hy175]; with_reducible exact H2_) | (have H2_ := (Option.bind_some _ _).symm.trans H; with_reducible exact H2_) | with_reducible exact H | (rw [hy175]; exact H) | exact H
      have Ny175 := Aside0.mk hy175
      clear hy175
      replace H := Option.bind_eq_some_iff.mp H
      obtain ⟨t178, A400, H⟩ := H
      (try dsimp only at H)
      have A40 := Aside0.mk A400
      clear A400
      by_cases c41 : y175.length + t178.length < 140737488355328
      case neg => rw [if_neg c41] at H; exact absurd H (by simp)
      rw [if_pos c41] at H
      have LMc41 := Aside0.mk c41
      clear c41
      obtain ⟨y181, hy181⟩ : ∃ y_ : List Int, y_ = (y175 ++ t178) := ⟨_, rfl⟩
      replace H : ((spec_l9Two.f (((rd_T37 l0 0).f7).length : Int)).bind fun t185 => (if y181.length + t185.length < 140737488355328 then ((some (y181 ++ t185 : List Int)).bind fun y188 => (if y188.length + ((rd_T37 l0 0).f7).length < 140737488355328 then ((some (y188 ++ ((rd_T37 l0 0).f7) : List Int)).bind fun y191 => ((spec_l9Two.f (wrap64 ((y191.length : Int) + 2))).bind fun t194 => ((some (cpy y191 t194 : List Int)).bind fun y197 => ((spec_l9Sum.f k1 y197).bind fun t200 => ((spec_l9Two.f t200).bind fun t201 => (if y197.length + t201.length < 140737488355328 then (some (y197 ++ t201)) else (none))))))) else (none))) else (none))) = some r := by first | (rw [hy181]; with_reducible exact H) | (have H2_ := (Option.bind_some _ _).symm.trans H; rw [hy181]; with_reducible exact H2_) | (have H2_ := (Option.bind_some _ _).symm.trans H; with_reducible exact H2_) | with_reducible exact H | (rw [hy181]; exact H) | exact H
      have Ny181 := Aside0.mk hy181
      clear hy181
      replace H := Option.bind_eq_some_iff.mp H
      obtain ⟨t185, A420, H⟩ := H
      (try dsimp only at H)
      have A42 := Aside0.mk A420
      clear A420
      by_cases c43 : y181.length + t185.length < 140737488355328
      case neg => rw [if_neg c43] at H; exact absurd H (by simp)
      rw [if_pos c43] at H
      have LMc43 := Aside0.mk c43
      clear c43
      obtain ⟨y188, hy188⟩ : ∃ y_ : List Int, y_ = (y181 ++ t185) := ⟨_, rfl⟩
      replace H : (if y188.length + ((rd_T37 l0 0).f7).length < 140737488355328 then ((some (y188 ++ ((rd_T37 l0 0).f7) : List Int)).bind fun y191 => ((spec_l9Two.f (wrap64 ((y191.length : Int) + 2))).bind fun t194 => ((some (cpy y191 t194 : List Int)).bind fun y197 => ((spec_l9Sum.f k1 y197).bind fun t200 => ((spec_l9Two.f t200).bind fun t201 => (if y197.length + t201.length < 140737488355328 then (some (y197 ++ t201)) else (none))))))) else (none)) = some r := by first | (rw [hy188]; with_reducible exact H) | (have H2_ := (Option.bind_some _ _).symm.trans H; rw [hy188]; with_reducible exact H2_) | (have H2_ := (Option.bind_some _ _).symm.trans H; with_reducible exact H2_) | with_reducible exact H | (rw [hy188]; exact H) | exact H
      have Ny188 := Aside0.mk hy188
      clear hy188
      by_cases c44 : y188.length + ((rd_T37 l0 0).f7).length < 140737488355328
      case neg => rw [if_neg c44] at H; exact absurd H (by simp)
      rw [if_pos c44] at H
      have LMc44 := Aside0.mk c44
      clear c44
      obtain ⟨y191, hy191⟩ : ∃ y_ : List Int, y_ = (y188 ++ ((rd_T37 l0 0).f7)) := ⟨_, rfl⟩
      replace H : ((spec_l9Two.f (wrap64 ((y191.length : Int) + 2))).bind fun t194 => ((some (cpy y191 t194 : List Int)).bind fun y197 => ((spec_l9Sum.f k1 y197).bind fun t200 => ((spec_l9Two.f t200).bind fun t201 => (if y197.length + t201.length < 140737488355328 then (some (y197 ++ t201)) else (none)))))) = some r := by first | (rw [hy191]; with_reducible exact H) | (have H2_ := (Option.bind_some _ _).symm.trans H; rw [hy191]; with_reducible exact H2_) | (have H2_ := (Option.bind_some _ _).symm.trans H; with_reducible exact H2_) | with_reducible exact H | (rw [hy191]; exact H) | exact H
      have Ny191 := Aside0.mk hy191
      clear hy191
      replace H := Option.bind_eq_some_iff.mp H
      obtain ⟨t194, A450, H⟩ := H
      (try dsimp only at H)
      have A45 := Aside0.mk A450
      clear A450
      obtain ⟨y197, hy197⟩ : ∃ y_ : List Int, y_ = (cpy y191 t194) := ⟨_, rfl⟩
      replace H : ((spec_l9Sum.f k1 y197).bind fun t200 => ((spec_l9Two.f t200).bind fun t201 => (if y197.length + t201.length < 140737488355328 then (some (y197 ++ t201)) else (none)))) = some r := by first | (rw [hy197]; with_reducible exact H) | (have H2_ := (Option.bind_some _ _).symm.trans H; rw [hy197]; with_reducible exact H2_) | (have H2_ := (Option.bind_some _ _).symm.trans H; with_reducible exact H2_) | with_reducible exact H | (rw [hy197]; exact H) | exact H
      have Ny197 := Aside0.mk hy197
      clear hy197
      replace H := Option.bind_eq_some_iff.mp H
      obtain ⟨t200, A460, H⟩ := H
      (try dsimp only at H)
      have A46 := Aside0.mk A460
      clear A460
      replace H := Option.bind_eq_some_iff.mp H
      obtain ⟨t201, A470, H⟩ := H
      (try dsimp only at H)
      have A47 := Aside0.mk A470
      clear A470
      by_cases c48 : y197.length + t201.length < 140737488355328
      case neg => rw [if_neg c48] at H; exact absurd H (by simp)
      rw [if_pos c48] at H
      have LMc48 := Aside0.mk c48
      clear c48
      obtain ⟨y204, hy204⟩ : ∃ y_ : List Int, y_ = (y197 ++ t201) := ⟨_, rfl⟩
      replace H : (some y204) = some r := by first | (rw [hy204]; with_reducible exact H) | (have H2_ := (Option.bind_some _ _).symm.trans H; rw [hy204]; with_reducible exact H2_) | (have H2_ := (Option.bind_some _ _).symm.trans H; with_reducible exact H2_) | with_reducible exact H | (rw [hy204]; exact H) | exact H
      have Ny204 := Aside0.mk hy204
      clear hy204
      obtain rfl := Option.some.inj H
      have p162 : 0 ≤ (0 : Int) := (by omega)
      have q162 : 0 < (l0.length : Int) := od_
      obtain ⟨ad162, A162_3, c162_3, A162_7, c162_7, e162, hx162_0, hx162_1, hx162_2, hx162_3, hx162_4, hx162_5, hx162_6, hx162_7, hl162_3, hi162_3, hl162_7, hi162_7⟩ := at_T37 HR0.out 0 p162 q162
      obtain rfl : ad132 = ad162 := (by injection e162)
      have qi162 : (0 < l0.length) = True := eq_true (by omega)
      (try simp only [Int.toNat_zero, Nat.zero_mul, Addr.add_zero'] at hx162_0 hx162_1 hx162_2 hx162_3 hx162_4 hx162_5 hx162_6 hx162_7)
      replace hx162_0 := ck_ HB.out hx162_0
      replace hx162_1 := ck_ HB.out hx162_1
      replace hx162_2 := ck_ HB.out hx162_2
      replace hx162_3 := ck_ HB.out hx162_3
      replace hx162_4 := ck_ HB.out hx162_4
      replace hx162_5 := ck_ HB.out hx162_5
      replace hx162_6 := ck_ HB.out hx162_6
      replace hx162_7 := ck_ HB.out hx162_7
      have HR162_3 := Aside0.mk hi162_3
      have HC162_3 := Aside0.mk hl162_3
      clear hi162_3 hl162_3
      have HR162_7 := Aside0.mk hi162_7
      have HC162_7 := Aside0.mk hl162_7
      clear hi162_7 hl162_7
      replace p162 := eq_true p162
      replace q162 := eq_true q162
      (try clear hx155_0 hx155_1 hx155_2 hx155_3 hx155_4 hx155_5 hx155_6 hx155_7)
      try go_wp2
      replace HO_3 := Aside0.mk (Kd.R_drew HO_3.out)
      replace HB := Aside0.mk (below_drew1 HB.out)
      have p171 : 0 ≤ (0 : Int) := (by omega)
      have q171 : 0 < (l0.length : Int) := od_
      obtain ⟨ad171, A171_3, c171_3, A171_7, c171_7, e171, hx171_0, hx171_1, hx171_2, hx171_3, hx171_4, hx171_5, hx171_6, hx171_7, hl171_3, hi171_3, hl171_7, hi171_7⟩ := at_T37 HR0.out 0 p171 q171
      have hw171_7 := hx171_7
      (try simp only [Int.toNat_zero, Nat.zero_mul, Addr.add_zero'] at hw171_7)
      have hw171_6 := hx171_6
      (try simp only [Int.toNat_zero, Nat.zero_mul, Addr.add_zero'] at hw171_6)
      have hw171_5 := hx171_5
      (try simp only [Int.toNat_zero, Nat.zero_mul, Addr.add_zero'] at hw171_5)
      have hw171_4 := hx171_4
      (try simp only [Int.toNat_zero, Nat.zero_mul, Addr.add_zero'] at hw171_4)
      have hw171_3 := hx171_3
      (try simp only [Int.toNat_zero, Nat.zero_mul, Addr.add_zero'] at hw171_3)
      have hw171_2 := hx171_2
      (try simp only [Int.toNat_zero, Nat.zero_mul, Addr.add_zero'] at hw171_2)
      have hw171_1 := hx171_1
      (try simp only [Int.toNat_zero, Nat.zero_mul, Addr.add_zero'] at hw171_1)
      have hw171_0 := hx171_0
      (try simp only [Int.toNat_zero, Nat.zero_mul, Addr.add_zero'] at hw171_0)
      obtain rfl : ad132 = ad171 := (by injection e171)
      have qi171 : (0 < l0.length) = True := eq_true (by omega)
      (try simp only [Int.toNat_zero, Nat.zero_mul, Addr.add_zero'] at hx171_0 hx171_1 hx171_2 hx171_3 hx171_4 hx171_5 hx171_6 hx171_7)
      replace hx171_0 := ck_ HB.out hx171_0
      replace hx171_1 := ck_ HB.out hx171_1
      replace hx171_2 := ck_ HB.out hx171_2
      replace hx171_3 := ck_ HB.out hx171_3
      replace hx171_4 := ck_ HB.out hx171_4
      replace hx171_5 := ck_ HB.out hx171_5
      replace hx171_6 := ck_ HB.out hx171_6
      replace hx171_7 := ck_ HB.out hx171_7
      have HR171_3 := Aside0.mk hi171_3
      have HC171_3 := Aside0.mk hl171_3
      clear hi171_3 hl171_3
      have HR171_7 := Aside0.mk hi171_7
      have HC171_7 := Aside0.mk hl171_7
      clear hi171_7 hl171_7
      replace p171 := eq_true p171
      replace q171 := eq_true q171
      refine start_ (n := 20) (S := fun w' => w'.cell? ad132 = some (.int .i64 ((rd_T37 l0 0).f0)) ∧ w'.cell? ⟨ad132.block, ad132.off + 1, none⟩ = some (.string ((rd_T37 l0 0).f1)) ∧ w'.cell? ⟨ad132.block, ad132.off + 2, none⟩ = some (.string ((rd_T37 l0 0).f2)) ∧ w'.cell? ⟨ad132.block, ad132.off + 3, none⟩ = some (.slice A171_3 ((rd_T37 l0 0).f3).length c171_3) ∧ w'.cell? ⟨ad132.block, ad132.off + 4, none⟩ = some (.int .i64 ((rd_T37 l0 0).f4)) ∧ w'.cell? ⟨ad132.block, ad132.off + 5, none⟩ = some (.int .i64 ((rd_T37 l0 0).f5)) ∧ w'.cell? ⟨ad132.block, ad132.off + 6, none⟩ = some (.int .i64 ((rd_T37 l0 0).f6)) ∧ w'.cell? ⟨ad132.block, ad132.off + 7, none⟩ = some (.slice A171_7 ((rd_T37 l0 0).f7).length c171_7)) (ds := []) #[false, false, false, false, false, false, false, false, false, false, false, false, false, false, false, false, false, false, false, false] (by kernel_rfl) rfl rfl ⟨(ck_ HB.out hw171_0), (ck_ HB.out hw171_1), (ck_ HB.out hw171_2), (ck_ HB.out hw171_3), (ck_ HB.out hw171_4), (ck_ HB.out hw171_5), (ck_ HB.out hw171_6), (ck_ HB.out hw171_7)⟩ (fun hHeld => ?_); refine with_tabW spec_l9Pack.tab8 spec_l9Pack.bits8 (fun HT_ HW_ => ?_)
      generalize wr.drew = w49 at HO_3 HB HR171_3 HR171_7 hx171_0 hx171_1 hx171_2 hx171_3 hx171_4 hx171_5 hx171_6 hx171_7 hHeld ⊢
      refine pure_ (i := 0) (N := some 66) (v := ?_) (a' := ?_) #[true, false, false, false, false, false, false, false, false, false, false, false, false, false, false, false, false, false, false, false] rfl rfl (any_of HT_.out (by kernel_rfl)) (fun _ _ _ h => h) (Or.inl ⟨by rfl, ?_⟩) ?_ ?_; rotate_left
      · intro w'; go_simp; all_goals (first | with_reducible rfl | (simp [Instr.field, go_sem]; rfl))
      rotate_left
      · simp only [Act.put, List.setIfInBounds_toArray, List.set_cons_zero, List.set_cons_succ, i64_w, i32_w]; rfl
      refine pure_ (i := 1) (N := some 67) (v := ?_) (a' := ?_) #[true, true, false, false, false, false, false, false, false, false, false, false, false, false, false, false, false, false, false, false] rfl rfl (any_of HT_.out (by kernel_rfl)) (fun _ _ _ h => h) (Or.inl ⟨by rfl, ?_⟩) ?_ ?_; rotate_left
      · intro w'; go_simp; all_goals (first | with_reducible rfl | (simp [Instr.field, go_sem]; rfl))
      rotate_left
      · simp only [Act.put, List.setIfInBounds_toArray, List.set_cons_zero, List.set_cons_succ, i64_w, i32_w]; rfl
      refine pure_ (i := 2) (N := some 68) (v := ?_) (a' := ?_) #[true, true, true, false, false, false, false, false, false, false, false, false, false, false, false, false, false, false, false, false] rfl rfl (any_of HT_.out (by kernel_rfl)) (fun _ _ _ h => h) (Or.inl ⟨by rfl, ?_⟩) ?_ ?_; rotate_left
      · intro w'; go_simp; all_goals (first | with_reducible rfl | (simp [Instr.field, go_sem]; rfl))
      rotate_left
      · simp only [Act.put, List.setIfInBounds_toArray, List.set_cons_zero, List.set_cons_succ, i64_w, i32_w]; rfl
      refine pure_ (i := 3) (N := some 69) (v := ?_) (a' := ?_) #[true, true, true, true, false, false, false, false, false, false, false, false, false, false, false, false, false, false, false, false] rfl rfl (any_of HT_.out (by kernel_rfl)) (fun _ _ _ h => h) (Or.inl ⟨by rfl, ?_⟩) ?_ ?_; rotate_left
      · intro w'; go_simp; all_goals (first | with_reducible rfl | (simp [Instr.field, go_sem]; rfl))
      rotate_left
      · simp only [Act.put, List.setIfInBounds_toArray, List.set_cons_zero, List.set_cons_succ, i64_w, i32_w]; rfl
      refine pure_ (i := 6) (N := some 72) (v := ?_) (a' := ?_) #[true, true, true, true, false, false, true, false, false, false, false, false, false, false, false, false, false, false, false, false] rfl rfl (any_of HT_.out (by kernel_rfl)) (fun _ _ _ h => h) (Or.inl ⟨by rfl, ?_⟩) ?_ ?_; rotate_left
      · intro w'; go_simp; all_goals (first | with_reducible rfl | (simp [Instr.field, go_sem]; rfl))
      rotate_left
      · simp only [Act.put, List.setIfInBounds_toArray, List.set_cons_zero, List.set_cons_succ, i64_w, i32_w]; rfl
      refine pure_ (i := 7) (N := some 73) (v := ?_) (a' := ?_) #[true, true, true, true, false, false, true, true, false, false, false, false, false, false, false, false, false, false, false, false] rfl rfl (any_of HT_.out (by kernel_rfl)) (fun _ _ _ h => h) (Or.inl ⟨by rfl, ?_⟩) ?_ ?_; rotate_left
      · intro w'; go_simp; all_goals (first | with_reducible rfl | (simp [Instr.field, go_sem]; rfl))
      rotate_left
      · simp only [Act.put, List.setIfInBounds_toArray, List.set_cons_zero, List.set_cons_succ, i64_w, i32_w]; rfl
      refine pure_ (i := 8) (N := some 74) (v := ?_) (a' := ?_) #[true, true, true, true, false, false, true, true, true, false, false, false, false, false, false, false, false, false, false, false] rfl rfl (any_of HT_.out (by kernel_rfl)) (fun _ _ _ h => h) (Or.inl ⟨by rfl, ?_⟩) ?_ ?_; rotate_left
      · intro w'; go_simp; all_goals (first | with_reducible rfl | (simp [Instr.field, go_sem]; rfl))
      rotate_left
      · simp only [Act.put, List.setIfInBounds_toArray, List.set_cons_zero, List.set_cons_succ, i64_w, i32_w]; rfl
      refine pure_ (i := 13) (N := some 79) (v := ?_) (a' := ?_) #[true, true, true, true, false, false, true, true, true, false, false, false, false, true, false, false, false, false, false, false] rfl rfl (any_of HT_.out (by kernel_rfl)) (fun _ _ _ h => h) (Or.inl ⟨by rfl, ?_⟩) ?_ ?_; rotate_left
      · intro w'; go_simp; all_goals (first | with_reducible rfl | (simp [Instr.field, go_sem]; rfl))
      rotate_left
      · simp only [Act.put, List.setIfInBounds_toArray, List.set_cons_zero, List.set_cons_succ, i64_w, i32_w]; rfl
      refine pure_ (i := 14) (N := some 80) (v := ?_) (a' := ?_) #[true, true, true, true, false, false, true, true, true, false, false, false, false, true, true, false, false, false, false, false] rfl rfl (any_of HT_.out (by kernel_rfl)) (fun _ _ _ h => h) (Or.inl ⟨by rfl, ?_⟩) ?_ ?_; rotate_left
      · intro w'; go_simp; all_goals (first | with_reducible rfl | (simp [Instr.field, go_sem]; rfl))
      rotate_left
      · simp only [Act.put, List.setIfInBounds_toArray, List.set_cons_zero, List.set_cons_succ, i64_w, i32_w]; rfl
      refine pure_ (i := 15) (N := some 81) (v := ?_) (a' := ?_) #[true, true, true, true, false, false, true, true, true, false, false, false, false, true, true, true, false, false, false, false] rfl rfl (any_of HT_.out (by kernel_rfl)) (fun _ _ _ h => h) (Or.inl ⟨by rfl, ?_⟩) ?_ ?_; rotate_left
      · intro w'; go_simp; all_goals (first | with_reducible rfl | (simp [Instr.field, go_sem]; rfl))
      rotate_left
      · simp only [Act.put, List.setIfInBounds_toArray, List.set_cons_zero, List.set_cons_succ, i64_w, i32_w]; rfl
      refine take_ (i := 4) (N := some 70) (v := ?_) (a' := ?_) #[true, true, true, true, true, false, true, true, true, false, false, false, false, true, true, true, false, false, false, false] rfl rfl (take_ofW HT_.out HW_.out (by kernel_rfl)) (fun _ _ _ h => h) (Or.inl ⟨by rfl, ?_⟩) hHeld ?_ ?_; rotate_left
      · rintro w' ⟨s0, s1, s2, s3, s4, s5, s6, s7⟩; go_simp; all_goals (first | with_reducible rfl | (simp [Instr.field, go_sem]; rfl))
      rotate_left
      · simp only [Act.put, List.setIfInBounds_toArray, List.set_cons_zero, List.set_cons_succ, i64_w, i32_w]; rfl
      refine pure_ (i := 5) (N := some 71) (v := ?_) (a' := ?_) #[true, true, true, true, true, true, true, true, true, false, false, false, false, true, true, true, false, false, false, false] rfl rfl (any_of HT_.out (by kernel_rfl)) (fun _ _ _ h => h) (Or.inl ⟨by rfl, ?_⟩) ?_ ?_; rotate_left
      · intro w'; go_simp; all_goals (first | with_reducible rfl | (simp [Instr.field, go_sem]; rfl))
      rotate_left
      · simp only [Act.put, List.setIfInBounds_toArray, List.set_cons_zero, List.set_cons_succ, i64_w, i32_w]; rfl
      refine take_ (i := 9) (N := some 75) (v := ?_) (a' := ?_) #[true, true, true, true, true, true, true, true, true, true, false, false, false, true, true, true, false, false, false, false] rfl rfl (take_ofW HT_.out HW_.out (by kernel_rfl)) (fun _ _ _ h => h) (Or.inl ⟨by rfl, ?_⟩) hHeld ?_ ?_; rotate_left
      · rintro w' ⟨s0, s1, s2, s3, s4, s5, s6, s7⟩; go_simp; all_goals (first | with_reducible rfl | (simp [Instr.field, go_sem]; rfl))
      rotate_left
      · simp only [Act.put, List.setIfInBounds_toArray, List.set_cons_zero, List.set_cons_succ, i64_w, i32_w]; rfl
      refine pure_ (i := 10) (N := some 76) (v := ?_) (a' := ?_) #[true, true, true, true, true, true, true, true, true, true, true, false, false, true, true, true, false, false, false, false] rfl rfl (any_of HT_.out (by kernel_rfl)) (fun _ _ _ h => h) (Or.inl ⟨by rfl, ?_⟩) ?_ ?_; rotate_left
      · intro w'; go_simp; all_goals (first | with_reducible rfl | (simp [Instr.field, go_sem]; rfl))
      rotate_left
      · simp only [Act.put, List.setIfInBounds_toArray, List.set_cons_zero, List.set_cons_succ, i64_w, i32_w]; rfl
      refine take_ (i := 16) (N := some 82) (v := ?_) (a' := ?_) #[true, true, true, true, true, true, true, true, true, true, true, false, false, true, true, true, true, false, false, false] rfl rfl (take_ofW HT_.out HW_.out (by kernel_rfl)) (fun _ _ _ h => h) (Or.inl ⟨by rfl, ?_⟩) hHeld ?_ ?_; rotate_left
      · rintro w' ⟨s0, s1, s2, s3, s4, s5, s6, s7⟩; go_simp; all_goals (first | with_reducible rfl | (simp [Instr.field, go_sem]; rfl))
      rotate_left
      · simp only [Act.put, List.setIfInBounds_toArray, List.set_cons_zero, List.set_cons_succ, i64_w, i32_w]; rfl
      refine one_ (i := 11) (N := some 77) #[true, true, true, true, true, true, true, true, true, true, true, true, false, true, true, true, true, false, false, false] rfl rfl (one_of HT_.out (by kernel_rfl)) (by decide) (fun K hK => ?_)
      refine Kd.R_lit_step (Kd.int .u8) _ 5 ?hg (N := 77) ?hd (xs := ([((rd_T37 l0 0).f4) % 256, ((rd_T37 l0 0).f5) % 256] : List Int)) (inner := [.int .u8 (((rd_T37 l0 0).f4) % 256), .int .u8 (((rd_T37 l0 0).f5) % 256)]) (ok := fun _ => True) (okp := fun _ => True) ?hr ?hp (fun _ hk => hk) trivial (Below.refl _ _) (Nat.le_refl _) (by simp) ?_; (case hd => rfl); (case hg => rfl); (case hr => first | (go_simp; done) | (go_simp; rfl)); (case hp => exact (Reps.one (show Kd.M (Kd.int .u8) _ _ _ (((rd_T37 l0 0).f4) % 256) [.int .u8 (((rd_T37 l0 0).f4) % 256)] from rfl) (Reps.one (show Kd.M (Kd.int .u8) _ _ _ (((rd_T37 l0 0).f5) % 256) [.int .u8 (((rd_T37 l0 0).f5) % 256)] from rfl) (Reps.none _ _))))
      intro v173 w50 ho51 hb hg_ hnew_
      clear hg_ hnew_
      (first | rw [← Ny172.out] at ho51 | (simp only [Int.reduceToNat] at ho51; rw [← Ny172.out] at ho51))
      have n0_ := Aside0.mk (Kd.R_elder' (R_up HO_3.out) (Kd.R_base ho51) hb)
      have n1_ := Aside0.mk (Kd.R_lower (Kd.R_new' ho51 (Kd.R_lt (R_up HO_3.out))) (below_size (HB_up HB.out)))
      have n2_ := Aside0.mk (below_step (HB_up HB.out) hb)
      clear HO_3
      clear HB
      have HO_3 := n0_
      have HO174 := n1_
      have HB := n2_
      clear n0_ n1_ n2_
      clear hb ho51
      obtain ⟨Ao53, co53, eo53⟩ := Kd.R_slice HO174.out
      (first | subst eo53 | (injection eo53 with f1_ f2_ f3_; have f4_ := f1_.symm; have f5_ := f3_.symm; clear f1_ f2_ f3_; subst f4_; subst f5_))
      refine hK.out _ _ ⟨(ck_ HB.out hw171_0), (ck_ HB.out hw171_1), (ck_ HB.out hw171_2), (ck_ HB.out hw171_3), (ck_ HB.out hw171_4), (ck_ HB.out hw171_5), (ck_ HB.out hw171_6), (ck_ HB.out hw171_7)⟩ (fun hHeld => ?_)
      clear hK K
      refine norm_ (a' := ?_) ?_ ?_
      rotate_left
      · show Act.put _ (some 77) _ = _
        simp only [Act.put, List.setIfInBounds_toArray, List.set_cons_zero, List.set_cons_succ, i64_w, i32_w]
        rfl
      refine one_ (i := 12) (N := some 78) #[true, true, true, true, true, true, true, true, true, true, true, true, true, true, true, true, true, false, false, false] rfl rfl (one_of HT_.out (by kernel_rfl)) (by decide) (fun K hK => ?_)
      refine Kd.R_append_rows_step (Kd.int .u8) (w0 := w) w.heap.size (by rfl) (.tmp 66) (.tmp 77) 24 5 (.int .u8 0) 1 rfl Try.underlying24 info5 rfl (by decide) (by omega) u3 x3_1 y172 _ _ _ (fun k_ => some k_ ≠ (.slice Ao53 y172.length co53 : Value).ownBlock) (fun _ => False) rfl rfl ?aO ?aR (fun _ _ h => h) (fun _ h => h.elim) ?aF ?aB ?aS ?aL ?_
      (case aR => exact C_up (Kd.R_reads' HO174.out).2.2)
      (case aB => exact (HB_up HB.out))
      (case aF => exact (fun k_ hk => Kd.fresh' (Kd.R_lt (R_up HO174.out)) k_ hk))
      (case aO => exact (by (with_reducible repeat (first | apply Kd.R_alloc | apply Kd.R_drewN | apply Kd.R_drew)); exact Kd.R_mono HO_3.out (fun _ hk => hk.2)))
      (case aS => exact (below_size (HB_up HB.out)))
      (case aL => have := LMc39.out; omega)
      intro v176 w52 ho hb hg hat
      rw [← Ny175.out] at ho
      have n0_ := Aside0.mk (Kd.R_after (ok := (fun _ => True)) (R_up HO174.out) hg hat)
      have n1_ := Aside0.mk (hb)
      have n2_ := Aside0.mk (ho)
      clear HO174
      clear HB
      clear HO_3
      have HO174 := n0_
      have HB := n1_
      have HO177 := n2_
      clear n0_ n1_ n2_
      clear ho hb hg hat
      refine hK.out _ _ ⟨(ck_ HB.out hw171_0), (ck_ HB.out hw171_1), (ck_ HB.out hw171_2), (ck_ HB.out hw171_3), (ck_ HB.out hw171_4), (ck_ HB.out hw171_5), (ck_ HB.out hw171_6), (ck_ HB.out hw171_7)⟩ (fun hHeld => ?_)
      clear hK K
      refine norm_ (a' := ?_) ?_ ?_
      rotate_left
      · show Act.put _ (some 78) _ = _
        simp only [Act.put, List.setIfInBounds_toArray, List.set_cons_zero, List.set_cons_succ, i64_w, i32_w]
        rfl
      refine one_ (i := 17) (N := some 83) #[true, true, true, true, true, true, true, true, true, true, true, true, true, true, true, true, true, true, false, false] rfl rfl (one_of HT_.out (by kernel_rfl)) (by decide) (fun K hK => ?_)
      refine goes_ Try.func73 (by kernel_rfl) rfl #[.int .i64 ((rd_T37 l0 0).f6)] (by rfl) rfl rfl (by (try simp only [List.map_toArray, List.map_cons, List.map_nil]); first | done | rfl | (simp only [List.length_drop, List.length_take]; rfl)) ?_
      with_reducible refine (spec_l9Two.calls ((rd_T37 l0 0).f6) t178 _ A40.out).mono ?_
      rintro e w54 ⟨v179, rfl, ho0, hb⟩
      refine ⟨_, rfl, ?_⟩
      have n0_ := Aside0.mk (Kd.R_elder' (R_up HO174.out) (Kd.R_base ho0) hb)
      have n1_ := Aside0.mk (Kd.R_elder' (R_up HO177.out) (Kd.R_base ho0) hb)
      have n2_ := Aside0.mk (Kd.R_lower (Kd.R_new' (Kd.R_new' ho0 (Kd.R_lt (R_up HO174.out))) (Kd.R_lt (R_up HO177.out))) (below_size (HB_up HB.out)))
      have n3_ := Aside0.mk (below_step (HB_up HB.out) hb)
      clear HO174
      clear HO177
      clear HB
      have HO174 := n0_
      have HO177 := n1_
      have HO180 := n2_
      have HB := n3_
      clear n0_ n1_ n2_ n3_
      (try clear hb)
      (try clear hb2)
      (try clear hk)
      (try clear hi)
      (try clear ho0)
      obtain ⟨Ao56, co56, eo56⟩ := Kd.R_slice HO180.out
      (first | subst eo56 | (injection eo56 with f1_ f2_ f3_; have f4_ := f1_.symm; have f5_ := f3_.symm; clear f1_ f2_ f3_; subst f4_; subst f5_))
      refine hK.out _ _ ⟨(ck_ HB.out hw171_0), (ck_ HB.out hw171_1), (ck_ HB.out hw171_2), (ck_ HB.out hw171_3), (ck_ HB.out hw171_4), (ck_ HB.out hw171_5), (ck_ HB.out hw171_6), (ck_ HB.out hw171_7)⟩ (fun hHeld => ?_)
      clear hK K
      refine norm_ (a' := ?_) ?_ ?_
      rotate_left
      · show Act.put _ (some 83) _ = _
        simp only [Act.put, List.setIfInBounds_toArray, List.set_cons_zero, List.set_cons_succ, i64_w, i32_w]
        rfl
      refine one_ (i := 18) (N := some 84) #[true, true, true, true, true, true, true, true, true, true, true, true, true, true, true, true, true, true, true, false] rfl rfl (one_of HT_.out (by kernel_rfl)) (by decide) (fun K hK => ?_)
      refine Kd.R_append_rows_step (Kd.int .u8) (w0 := w) w.heap.size (by rfl) (.tmp 78) (.tmp 83) 24 5 (.int .u8 0) 1 rfl Try.underlying24 info5 rfl (by decide) (by omega) v176 y175 t178 _ _ _ (fun k_ => some k_ ≠ (.slice Ao53 y172.length co53 : Value).ownBlock ∧ some k_ ≠ (.slice Ao56 t178.length co56 : Value).ownBlock) (fun _ => False) rfl rfl ?aO ?aR (fun _ _ h => h) (fun _ h => h.elim) ?aF ?aB ?aS ?aL ?_
      (case aR => exact C_up (Kd.R_reads' HO180.out).2.2)
      (case aB => exact (HB_up HB.out))
      (case aF => exact (fun k_ hk => ⟨Kd.fresh' (Kd.R_lt (R_up HO174.out)) k_ hk, Kd.fresh' (Kd.R_lt (R_up HO180.out)) k_ hk⟩))
      (case aO => exact (R_up HO177.out))
      (case aS => exact (below_size (HB_up HB.out)))
      (case aL => have := LMc41.out; omega)
      intro v182 w55 ho hb hg hat
      rw [← Ny181.out] at ho
      have n0_ := Aside0.mk (Kd.R_after (ok := (fun k_ => some k_ ≠ (.slice Ao56 t178.length co56 : Value).ownBlock)) (by (with_reducible repeat (first | apply Kd.R_alloc | apply Kd.R_drewN | apply Kd.R_drew)); exact Kd.R_mono HO174.out (fun _ hk => ⟨hk.2, hk.1.2⟩)) hg hat)
      have n1_ := Aside0.mk (Kd.R_after (ok := (fun k_ => some k_ ≠ (.slice Ao53 y172.length co53 : Value).ownBlock)) (by (with_reducible repeat (first | apply Kd.R_alloc | apply Kd.R_drewN | apply Kd.R_drew)); exact Kd.R_mono HO180.out (fun _ hk => ⟨hk.1.2, hk.2⟩)) hg hat)
      have n2_ := Aside0.mk (hb)
      have n3_ := Aside0.mk (ho)
      clear HO174
      clear HO180
      clear HB
      clear HO177
      have HO174 := n0_
      have HO180 := n1_
      have HB := n2_
      have HO183 := n3_
      clear n0_ n1_ n2_ n3_
      clear ho hb hg hat
      refine hK.out _ _ ⟨(ck_ HB.out hw171_0), (ck_ HB.out hw171_1), (ck_ HB.out hw171_2), (ck_ HB.out hw171_3), (ck_ HB.out hw171_4), (ck_ HB.out hw171_5), (ck_ HB.out hw171_6), (ck_ HB.out hw171_7)⟩ (fun hHeld => ?_)
      clear hK K
      refine norm_ (a' := ?_) ?_ ?_
      rotate_left
      · show Act.put _ (some 84) _ = _
        simp only [Act.put, List.setIfInBounds_toArray, List.set_cons_zero, List.set_cons_succ, i64_w, i32_w]
        rfl
      refine pure_ (i := 19) (N := some 3) (v := ?_) (a' := ?_) #[true, true, true, true, true, true, true, true, true, true, true, true, true, true, true, true, true, true, true, true] rfl rfl (any_of HT_.out (by kernel_rfl)) (fun _ _ _ h => h) (Or.inl ⟨by rfl, ?_⟩) ?_ ?_; rotate_left
      · intro w'; go_simp; all_goals (first | with_reducible rfl | (simp [Instr.field, go_sem]; rfl))
      rotate_left
      · simp only [Act.put, List.setIfInBounds_toArray, List.set_cons_zero, List.set_cons_succ, i64_w, i32_w]; rfl
      refine done_ (done_of HT_.out (by kernel_rfl)) ?_
      try go_wp2
      replace HO174 := Aside0.mk (Kd.R_drew HO174.out)
      replace HO180 := Aside0.mk (Kd.R_drew HO180.out)
      replace HO183 := Aside0.mk (Kd.R_drew HO183.out)
      replace HB := Aside0.mk (below_drew1 HB.out)
      have p184 : 0 ≤ (0 : Int) := (by omega)
      have q184 : 0 < (l0.length : Int) := od_
      obtain ⟨ad184, A184_3, c184_3, A184_7, c184_7, e184, hx184_0, hx184_1, hx184_2, hx184_3, hx184_4, hx184_5, hx184_6, hx184_7, hl184_3, hi184_3, hl184_7, hi184_7⟩ := at_T37 HR0.out 0 p184 q184
      have hw184_7 := hx184_7
      (try simp only [Int.toNat_zero, Nat.zero_mul, Addr.add_zero'] at hw184_7)
      have hw184_6 := hx184_6
      (try simp only [Int.toNat_zero, Nat.zero_mul, Addr.add_zero'] at hw184_6)
      have hw184_5 := hx184_5
      (try simp only [Int.toNat_zero, Nat.zero_mul, Addr.add_zero'] at hw184_5)
      have hw184_4 := hx184_4
      (try simp only [Int.toNat_zero, Nat.zero_mul, Addr.add_zero'] at hw184_4)
      have hw184_3 := hx184_3
      (try simp only [Int.toNat_zero, Nat.zero_mul, Addr.add_zero'] at hw184_3)
      have hw184_2 := hx184_2
      (try simp only [Int.toNat_zero, Nat.zero_mul, Addr.add_zero'] at hw184_2)
      have hw184_1 := hx184_1
      (try simp only [Int.toNat_zero, Nat.zero_mul, Addr.add_zero'] at hw184_1)
      have hw184_0 := hx184_0
      (try simp only [Int.toNat_zero, Nat.zero_mul, Addr.add_zero'] at hw184_0)
      obtain rfl : ad132 = ad184 := (by injection e184)
      have qi184 : (0 < l0.length) = True := eq_true (by omega)
      (try simp only [Int.toNat_zero, Nat.zero_mul, Addr.add_zero'] at hx184_0 hx184_1 hx184_2 hx184_3 hx184_4 hx184_5 hx184_6 hx184_7)
      replace hx184_0 := ck_ HB.out hx184_0
      replace hx184_1 := ck_ HB.out hx184_1
      replace hx184_2 := ck_ HB.out hx184_2
      replace hx184_3 := ck_ HB.out hx184_3
      replace hx184_4 := ck_ HB.out hx184_4
      replace hx184_5 := ck_ HB.out hx184_5
      replace hx184_6 := ck_ HB.out hx184_6
      replace hx184_7 := ck_ HB.out hx184_7
      have HR184_3 := Aside0.mk hi184_3
      have HC184_3 := Aside0.mk hl184_3
      clear hi184_3 hl184_3
      have HR184_7 := Aside0.mk hi184_7
      have HC184_7 := Aside0.mk hl184_7
      clear hi184_7 hl184_7
      replace p184 := eq_true p184
      replace q184 := eq_true q184
      refine start_ (n := 14) (S := fun w' => w'.cell? ad132 = some (.int .i64 ((rd_T37 l0 0).f0)) ∧ w'.cell? ⟨ad132.block, ad132.off + 1, none⟩ = some (.string ((rd_T37 l0 0).f1)) ∧ w'.cell? ⟨ad132.block, ad132.off + 2, none⟩ = some (.string ((rd_T37 l0 0).f2)) ∧ w'.cell? ⟨ad132.block, ad132.off + 3, none⟩ = some (.slice A184_3 ((rd_T37 l0 0).f3).length c184_3) ∧ w'.cell? ⟨ad132.block, ad132.off + 4, none⟩ = some (.int .i64 ((rd_T37 l0 0).f4)) ∧ w'.cell? ⟨ad132.block, ad132.off + 5, none⟩ = some (.int .i64 ((rd_T37 l0 0).f5)) ∧ w'.cell? ⟨ad132.block, ad132.off + 6, none⟩ = some (.int .i64 ((rd_T37 l0 0).f6)) ∧ w'.cell? ⟨ad132.block, ad132.off + 7, none⟩ = some (.slice A184_7 ((rd_T37 l0 0).f7).length c184_7)) (ds := []) #[false, false, false, false, false, false, false, false, false, false, false, false, false, false] (by kernel_rfl) rfl rfl ⟨(ck_ HB.out hw184_0), (ck_ HB.out hw184_1), (ck_ HB.out hw184_2), (ck_ HB.out hw184_3), (ck_ HB.out hw184_4), (ck_ HB.out hw184_5), (ck_ HB.out hw184_6), (ck_ HB.out hw184_7)⟩ (fun hHeld => ?_); refine with_tabW spec_l9Pack.tab9 spec_l9Pack.bits9 (fun HT_ HW_ => ?_)
      generalize w55.drew = w57 at HO174 HO180 HO183 HB HR184_3 HR184_7 hx184_0 hx184_1 hx184_2 hx184_3 hx184_4 hx184_5 hx184_6 hx184_7 hHeld ⊢
      refine pure_ (i := 0) (N := some 85) (v := ?_) (a' := ?_) #[true, false, false, false, false, false, false, false, false, false, false, false, false, false] rfl rfl (any_of HT_.out (by kernel_rfl)) (fun _ _ _ h => h) (Or.inl ⟨by rfl, ?_⟩) ?_ ?_; rotate_left
      · intro w'; go_simp; all_goals (first | with_reducible rfl | (simp [Instr.field, go_sem]; rfl))
      rotate_left
      · simp only [Act.put, List.setIfInBounds_toArray, List.set_cons_zero, List.set_cons_succ, i64_w, i32_w]; rfl
      refine pure_ (i := 1) (N := some 86) (v := ?_) (a' := ?_) #[true, true, false, false, false, false, false, false, false, false, false, false, false, false] rfl rfl (any_of HT_.out (by kernel_rfl)) (fun _ _ _ h => h) (Or.inl ⟨by rfl, ?_⟩) ?_ ?_; rotate_left
      · intro w'; go_simp; all_goals (first | with_reducible rfl | (simp [Instr.field, go_sem]; rfl))
      rotate_left
      · simp only [Act.put, List.setIfInBounds_toArray, List.set_cons_zero, List.set_cons_succ, i64_w, i32_w]; rfl
      refine pure_ (i := 2) (N := some 87) (v := ?_) (a' := ?_) #[true, true, true, false, false, false, false, false, false, false, false, false, false, false] rfl rfl (any_of HT_.out (by kernel_rfl)) (fun _ _ _ h => h) (Or.inl ⟨by rfl, ?_⟩) ?_ ?_; rotate_left
      · intro w'; go_simp; all_goals (first | with_reducible rfl | (simp [Instr.field, go_sem]; rfl))
      rotate_left
      · simp only [Act.put, List.setIfInBounds_toArray, List.set_cons_zero, List.set_cons_succ, i64_w, i32_w]; rfl
      refine pure_ (i := 3) (N := some 88) (v := ?_) (a' := ?_) #[true, true, true, true, false, false, false, false, false, false, false, false, false, false] rfl rfl (any_of HT_.out (by kernel_rfl)) (fun _ _ _ h => h) (Or.inl ⟨by rfl, ?_⟩) ?_ ?_; rotate_left
      · intro w'; go_simp; all_goals (first | with_reducible rfl | (simp [Instr.field, go_sem]; rfl))
      rotate_left
      · simp only [Act.put, List.setIfInBounds_toArray, List.set_cons_zero, List.set_cons_succ, i64_w, i32_w]; rfl
      refine pure_ (i := 8) (N := some 93) (v := ?_) (a' := ?_) #[true, true, true, true, false, false, false, false, true, false, false, false, false, false] rfl rfl (any_of HT_.out (by kernel_rfl)) (fun _ _ _ h => h) (Or.inl ⟨by rfl, ?_⟩) ?_ ?_; rotate_left
      · intro w'; go_simp; all_goals (first | with_reducible rfl | (simp [Instr.field, go_sem]; rfl))
      rotate_left
      · simp only [Act.put, List.setIfInBounds_toArray, List.set_cons_zero, List.set_cons_succ, i64_w, i32_w]; rfl
      refine pure_ (i := 9) (N := some 94) (v := ?_) (a' := ?_) #[true, true, true, true, false, false, false, false, true, true, false, false, false, false] rfl rfl (any_of HT_.out (by kernel_rfl)) (fun _ _ _ h => h) (Or.inl ⟨by rfl, ?_⟩) ?_ ?_; rotate_left
      · intro w'; go_simp; all_goals (first | with_reducible rfl | (simp [Instr.field, go_sem]; rfl))
      rotate_left
      · simp only [Act.put, List.setIfInBounds_toArray, List.set_cons_zero, List.set_cons_succ, i64_w, i32_w]; rfl
      refine pure_ (i := 10) (N := some 95) (v := ?_) (a' := ?_) #[true, true, true, true, false, false, false, false, true, true, true, false, false, false] rfl rfl (any_of HT_.out (by kernel_rfl)) (fun _ _ _ h => h) (Or.inl ⟨by rfl, ?_⟩) ?_ ?_; rotate_left
      · intro w'; go_simp; all_goals (first | with_reducible rfl | (simp [Instr.field, go_sem]; rfl))
      rotate_left
      · simp only [Act.put, List.setIfInBounds_toArray, List.set_cons_zero, List.set_cons_succ, i64_w, i32_w]; rfl
      refine take_ (i := 4) (N := some 89) (v := ?_) (a' := ?_) #[true, true, true, true, true, false, false, false, true, true, true, false, false, false] rfl rfl (take_ofW HT_.out HW_.out (by kernel_rfl)) (fun _ _ _ h => h) (Or.inl ⟨by rfl, ?_⟩) hHeld ?_ ?_; rotate_left
      · rintro w' ⟨s0, s1, s2, s3, s4, s5, s6, s7⟩; go_simp; all_goals (first | with_reducible rfl | (simp [Instr.field, go_sem]; rfl))
      rotate_left
      · simp only [Act.put, List.setIfInBounds_toArray, List.set_cons_zero, List.set_cons_succ, i64_w, i32_w]; rfl
      refine pure_ (i := 5) (N := some 90) (v := ?_) (a' := ?_) #[true, true, true, true, true, true, false, false, true, true, true, false, false, false] rfl rfl (any_of HT_.out (by kernel_rfl)) (fun _ _ _ h => h) (Or.inl ⟨by rfl, ?_⟩) ?_ ?_; rotate_left
      · intro w'; go_simp; all_goals (first | with_reducible rfl | (simp [Instr.field, go_sem]; rfl))
      rotate_left
      · simp only [Act.put, List.setIfInBounds_toArray, List.set_cons_zero, List.set_cons_succ, i64_w, i32_w]; rfl
      refine take_ (i := 11) (N := some 96) (v := ?_) (a' := ?_) #[true, true, true, true, true, true, false, false, true, true, true, true, false, false] rfl rfl (take_ofW HT_.out HW_.out (by kernel_rfl)) (fun _ _ _ h => h) (Or.inl ⟨by rfl, ?_⟩) hHeld ?_ ?_; rotate_left
      · rintro w' ⟨s0, s1, s2, s3, s4, s5, s6, s7⟩; go_simp; all_goals (first | with_reducible rfl | (simp [Instr.field, go_sem]; rfl))
      rotate_left
      · simp only [Act.put, List.setIfInBounds_toArray, List.set_cons_zero, List.set_cons_succ, i64_w, i32_w]; rfl
      refine one_ (i := 6) (N := some 91) #[true, true, true, true, true, true, true, false, true, true, true, true, false, false] rfl rfl (one_of HT_.out (by kernel_rfl)) (by decide) (fun K hK => ?_)
      refine goes_ Try.func73 (by kernel_rfl) rfl #[.int .i64 (((rd_T37 l0 0).f7).length : Int)] (by rfl) rfl rfl (by (try simp only [List.map_toArray, List.map_cons, List.map_nil]); first | done | rfl | (simp only [List.length_drop, List.length_take]; rfl)) ?_
      with_reducible refine (spec_l9Two.calls (((rd_T37 l0 0).f7).length : Int) t185 _ A42.out).mono ?_
      rintro e w58 ⟨v186, rfl, ho0, hb⟩
      refine ⟨_, rfl, ?_⟩
      have n0_ := Aside0.mk (Kd.R_elder' (R_up HO174.out) (Kd.R_base ho0) hb)
      have n1_ := Aside0.mk (Kd.R_elder' (R_up HO180.out) (Kd.R_base ho0) hb)
      have n2_ := Aside0.mk (Kd.R_elder' (R_up HO183.out) (Kd.R_base ho0) hb)
      have n3_ := Aside0.mk (Kd.R_lower (Kd.R_new' (Kd.R_new' (Kd.R_new' ho0 (Kd.R_lt (R_up HO174.out))) (Kd.R_lt (R_up HO180.out))) (Kd.R_lt (R_up HO183.out))) (below_size (HB_up HB.out)))
      have n4_ := Aside0.mk (below_step (HB_up HB.out) hb)
      clear HO174
      clear HO180
      clear HO183
      clear HB
      have HO174 := n0_
      have HO180 := n1_
      have HO183 := n2_
      have HO187 := n3_
      have HB := n4_
      clear n0_ n1_ n2_ n3_ n4_
      (try clear hb)
      (try clear hb2)
      (try clear hk)
      (try clear hi)
      (try clear ho0)
      obtain ⟨Ao60, co60, eo60⟩ := Kd.R_slice HO187.out
      (first | subst eo60 | (injection eo60 with f1_ f2_ f3_; have f4_ := f1_.symm; have f5_ := f3_.symm; clear f1_ f2_ f3_; subst f4_; subst f5_))
      refine hK.out _ _ ⟨(ck_ HB.out hw184_0), (ck_ HB.out hw184_1), (ck_ HB.out hw184_2), (ck_ HB.out hw184_3), (ck_ HB.out hw184_4), (ck_ HB.out hw184_5), (ck_ HB.out hw184_6), (ck_ HB.out hw184_7)⟩ (fun hHeld => ?_)
      clear hK K
      refine norm_ (a' := ?_) ?_ ?_
      rotate_left
      · show Act.put _ (some 91) _ = _
        simp only [Act.put, List.setIfInBounds_toArray, List.set_cons_zero, List.set_cons_succ, i64_w, i32_w]
        rfl
      refine one_ (i := 7) (N := some 92) #[true, true, true, true, true, true, true, true, true, true, true, true, false, false] rfl rfl (one_of HT_.out (by kernel_rfl)) (by decide) (fun K hK => ?_)
      refine Kd.R_append_rows_step (Kd.int .u8) (w0 := w) w.heap.size (by rfl) (.tmp 85) (.tmp 91) 24 5 (.int .u8 0) 1 rfl Try.underlying24 info5 rfl (by decide) (by omega) v182 y181 t185 _ _ _ (fun k_ => some k_ ≠ (.slice Ao53 y172.length co53 : Value).ownBlock ∧ some k_ ≠ (.slice Ao56 t178.length co56 : Value).ownBlock ∧ some k_ ≠ (.slice Ao60 t185.length co60 : Value).ownBlock) (fun _ => False) rfl rfl ?aO ?aR (fun _ _ h => h) (fun _ h => h.elim) ?aF ?aB ?aS ?aL ?_
      (case aR => exact C_up (Kd.R_reads' HO187.out).2.2)
      (case aB => exact (HB_up HB.out))
      (case aF => exact (fun k_ hk => ⟨Kd.fresh' (Kd.R_lt (R_up HO174.out)) k_ hk, Kd.fresh' (Kd.R_lt (R_up HO180.out)) k_ hk, Kd.fresh' (Kd.R_lt (R_up HO187.out)) k_ hk⟩))
      (case aO => exact (by (with_reducible repeat (first | apply Kd.R_alloc | apply Kd.R_drewN | apply Kd.R_drew)); exact Kd.R_mono HO183.out (fun _ hk => ⟨hk.1.1, ⟨hk.1.2, hk.2⟩⟩)))
      (case aS => exact (below_size (HB_up HB.out)))
      (case aL => have := LMc43.out; omega)
      intro v189 w59 ho hb hg hat
      rw [← Ny188.out] at ho
      have n0_ := Aside0.mk (Kd.R_after (ok := (fun k_ => some k_ ≠ (.slice Ao56 t178.length co56 : Value).ownBlock ∧ some k_ ≠ (.slice Ao60 t185.length co60 : Value).ownBlock)) (by (with_reducible repeat (first | apply Kd.R_alloc | apply Kd.R_drewN | apply Kd.R_drew)); exact Kd.R_mono HO174.out (fun _ hk => ⟨⟨hk.1.1, hk.2⟩, hk.1.2⟩)) hg hat)
      have n1_ := Aside0.mk (Kd.R_after (ok := (fun k_ => some k_ ≠ (.slice Ao53 y172.length co53 : Value).ownBlock ∧ some k_ ≠ (.slice Ao60 t185.length co60 : Value).ownBlock)) (by (with_reducible repeat (first | apply Kd.R_alloc | apply Kd.R_drewN | apply Kd.R_drew)); exact Kd.R_mono HO180.out (fun _ hk => ⟨⟨hk.1.1, hk.2⟩, hk.1.2⟩)) hg hat)
      have n2_ := Aside0.mk (Kd.R_after (ok := (fun k_ => some k_ ≠ (.slice Ao53 y172.length co53 : Value).ownBlock ∧ some k_ ≠ (.slice Ao56 t178.length co56 : Value).ownBlock)) (by (with_reducible repeat (first | apply Kd.R_alloc | apply Kd.R_drewN | apply Kd.R_drew)); exact Kd.R_mono HO187.out (fun _ hk => ⟨⟨hk.1.1.2, hk.1.2⟩, hk.2⟩)) hg hat)
      have n3_ := Aside0.mk (hb)
      have n4_ := Aside0.mk (ho)
      clear HO174
      clear HO180
      clear HO187
      clear HB
      clear HO183
      have HO174 := n0_
      have HO180 := n1_
      have HO187 := n2_
      have HB := n3_
      have HO190 := n4_
      clear n0_ n1_ n2_ n3_ n4_
      clear ho hb hg hat
      refine hK.out _ _ ⟨(ck_ HB.out hw184_0), (ck_ HB.out hw184_1), (ck_ HB.out hw184_2), (ck_ HB.out hw184_3), (ck_ HB.out hw184_4), (ck_ HB.out hw184_5), (ck_ HB.out hw184_6), (ck_ HB.out hw184_7)⟩ (fun hHeld => ?_)
      clear hK K
      refine norm_ (a' := ?_) ?_ ?_
      rotate_left
      · show Act.put _ (some 92) _ = _
        simp only [Act.put, List.setIfInBounds_toArray, List.set_cons_zero, List.set_cons_succ, i64_w, i32_w]
        rfl
      refine one_ (i := 12) (N := some 97) #[true, true, true, true, true, true, true, true, true, true, true, true, true, false] rfl rfl (one_of HT_.out (by kernel_rfl)) (by decide) (fun K hK => ?_)
      refine Kd.R_append_rows_step (Kd.int .u8) (w0 := w) w.heap.size (by rfl) (.tmp 92) (.tmp 96) 24 5 (.int .u8 0) 1 rfl Try.underlying24 info5 rfl (by decide) (by omega) v189 y188 ((rd_T37 l0 0).f7) _ _ _ (fun k_ => some k_ ≠ (.slice Ao53 y172.length co53 : Value).ownBlock ∧ some k_ ≠ (.slice Ao56 t178.length co56 : Value).ownBlock ∧ some k_ ≠ (.slice Ao60 t185.length co60 : Value).ownBlock) (fun _ => False) rfl rfl ?aO ?aR (fun _ _ h => h) (fun _ h => h.elim) ?aF ?aB ?aS ?aL ?_
      (case aR => exact C_up (Kd.C_below HR184_7.out HB.out))
      (case aB => exact (HB_up HB.out))
      (case aF => exact (fun k_ hk => ⟨Kd.fresh' (Kd.R_lt (R_up HO174.out)) k_ hk, Kd.fresh' (Kd.R_lt (R_up HO180.out)) k_ hk, Kd.fresh' (Kd.R_lt (R_up HO187.out)) k_ hk⟩))
      (case aO => exact (R_up HO190.out))
      (case aS => exact (below_size (HB_up HB.out)))
      (case aL => have := LMc44.out; omega)
      intro v192 w61 ho hb hg hat
      rw [← Ny191.out] at ho
      have n0_ := Aside0.mk (Kd.R_after (ok := (fun k_ => some k_ ≠ (.slice Ao56 t178.length co56 : Value).ownBlock ∧ some k_ ≠ (.slice Ao60 t185.length co60 : Value).ownBlock)) (R_up HO174.out) hg hat)
      have n1_ := Aside0.mk (Kd.R_after (ok := (fun k_ => some k_ ≠ (.slice Ao53 y172.length co53 : Value).ownBlock ∧ some k_ ≠ (.slice Ao60 t185.length co60 : Value).ownBlock)) (R_up HO180.out) hg hat)
      have n2_ := Aside0.mk (Kd.R_after (ok := (fun k_ => some k_ ≠ (.slice Ao53 y172.length co53 : Value).ownBlock ∧ some k_ ≠ (.slice Ao56 t178.length co56 : Value).ownBlock)) (R_up HO187.out) hg hat)
      have n3_ := Aside0.mk (hb)
      have n4_ := Aside0.mk (ho)
      clear HO174
      clear HO180
      clear HO187
      clear HB
      clear HO190
      have HO174 := n0_
      have HO180 := n1_
      have HO187 := n2_
      have HB := n3_
      have HO193 := n4_
      clear n0_ n1_ n2_ n3_ n4_
      clear ho hb hg hat
      refine hK.out _ _ ⟨(ck_ HB.out hw184_0), (ck_ HB.out hw184_1), (ck_ HB.out hw184_2), (ck_ HB.out hw184_3), (ck_ HB.out hw184_4), (ck_ HB.out hw184_5), (ck_ HB.out hw184_6), (ck_ HB.out hw184_7)⟩ (fun hHeld => ?_)
      clear hK K
      refine norm_ (a' := ?_) ?_ ?_
      rotate_left
      · show Act.put _ (some 97) _ = _
        simp only [Act.put, List.setIfInBounds_toArray, List.set_cons_zero, List.set_cons_succ, i64_w, i32_w]
        rfl
      refine pure_ (i := 13) (N := some 3) (v := ?_) (a' := ?_) #[true, true, true, true, true, true, true, true, true, true, true, true, true, true] rfl rfl (any_of HT_.out (by kernel_rfl)) (fun _ _ _ h => h) (Or.inl ⟨by rfl, ?_⟩) ?_ ?_; rotate_left
      · intro w'; go_simp; all_goals (first | with_reducible rfl | (simp [Instr.field, go_sem]; rfl))
      rotate_left
      · simp only [Act.put, List.setIfInBounds_toArray, List.set_cons_zero, List.set_cons_succ, i64_w, i32_w]; rfl
      refine done_ (done_of HT_.out (by kernel_rfl)) ?_
      obtain ⟨Ao62, co62, eo62⟩ := Kd.R_slice HO193.out
      subst eo62
      try go_wp2_with (first | ((with_reducible refine gate_callee (f := 73) rfl ?_); refine goesY_ (some 102) Try.func73 #[.int .i64 (wrap64 ((y191.length : Int) + 2))] rfl ?_; (with_reducible refine (spec_l9Two.calls (wrap64 ((y191.length : Int) + 2)) t194 _ A45.out).mono ?_); rintro e w63 ⟨v195, rfl, ho0, hb⟩; refine ⟨_, rfl, ?_⟩; have n0_ := Aside0.mk (Kd.R_elder' (R_up HO174.out) (Kd.R_base ho0) hb); have n1_ := Aside0.mk (Kd.R_elder' (R_up HO180.out) (Kd.R_base ho0) hb); have n2_ := Aside0.mk (Kd.R_elder' (R_up HO187.out) (Kd.R_base ho0) hb); have n3_ := Aside0.mk (Kd.R_elder' (R_up HO193.out) (Kd.R_base ho0) hb); have n4_ := Aside0.mk (Kd.R_lower (Kd.R_new' (Kd.R_new' (Kd.R_new' (Kd.R_new' ho0 (Kd.R_lt (R_up HO174.out))) (Kd.R_lt (R_up HO180.out))) (Kd.R_lt (R_up HO187.out))) (Kd.R_lt (R_up HO193.out))) (below_size (HB_up HB.out))); have n5_ := Aside0.mk (below_step (HB_up HB.out) hb); clear HO174; clear HO180; clear HO187; clear HO193; clear HB; have HO174 := n0_; have HO180 := n1_; have HO187 := n2_; have HO193 := n3_; have HO196 := n4_; have HB := n5_; clear n0_ n1_ n2_ n3_ n4_ n5_; (try clear hb); (try clear hb2); (try clear hk); (try clear hi); (try clear ho0); obtain ⟨Ao65, co65, eo65⟩ := Kd.R_slice HO196.out; subst eo65) | ((with_reducible refine gate_builtin (b := .copy) (xs := #[.tmp 98, .tmp 102]) rfl ?_); skip; refine Kd.R_copyv (w0 := w) w.heap.size rfl (.tmp 98) (.tmp 102) 24 5 rfl Try.underlying24 info5 (.slice Ao62 y191.length co62) y191 t194 _ _ _ (fun k_ => some k_ ≠ (.slice Ao53 y172.length co53 : Value).ownBlock ∧ some k_ ≠ (.slice Ao56 t178.length co56 : Value).ownBlock ∧ some k_ ≠ (.slice Ao60 t185.length co60 : Value).ownBlock ∧ some k_ ≠ (.slice Ao65 t194.length co65 : Value).ownBlock) rfl rfl ?aO ?aR ?aB ?aS ?_; (case aR => exact C_up (Kd.R_reads' HO196.out).2.2); (case aB => exact (HB_up HB.out)); (case aO => exact (by (with_reducible repeat (first | apply Kd.R_alloc | apply Kd.R_drewN | apply Kd.R_drew)); exact Kd.R_mono HO193.out (fun _ hk => ⟨hk.1.1, ⟨hk.1.2.1, ⟨hk.1.2.2, hk.2⟩⟩⟩))); (case aS => exact (below_size (HB_up HB.out))); intro v198 w64 hv_ ho hb hg hat k_; (rw [← hv_]; clear hv_); rw [← Ny197.out] at ho; have n0_ := Aside0.mk (Kd.R_after (ok := (fun k_ => some k_ ≠ (.slice Ao56 t178.length co56 : Value).ownBlock ∧ some k_ ≠ (.slice Ao60 t185.length co60 : Value).ownBlock ∧ some k_ ≠ (.slice Ao65 t194.length co65 : Value).ownBlock)) (by (with_reducible repeat (first | apply Kd.R_alloc | apply Kd.R_drewN | apply Kd.R_drew)); exact Kd.R_mono HO174.out (fun _ hk => ⟨⟨hk.1.1.1, ⟨hk.1.1.2, hk.2⟩⟩, hk.1.2⟩)) hg hat); have n1_ := Aside0.mk (Kd.R_after (ok := (fun k_ => some k_ ≠ (.slice Ao53 y172.length co53 : Value).ownBlock ∧ some k_ ≠ (.slice Ao60 t185.length co60 : Value).ownBlock ∧ some k_ ≠ (.slice Ao65 t194.length co65 : Value).ownBlock)) (by (with_reducible repeat (first | apply Kd.R_alloc | apply Kd.R_drewN | apply Kd.R_drew)); exact Kd.R_mono HO180.out (fun _ hk => ⟨⟨hk.1.1.1, ⟨hk.1.1.2, hk.2⟩⟩, hk.1.2⟩)) hg hat); have n2_ := Aside0.mk (Kd.R_after (ok := (fun k_ => some k_ ≠ (.slice Ao53 y172.length co53 : Value).ownBlock ∧ some k_ ≠ (.slice Ao56 t178.length co56 : Value).ownBlock ∧ some k_ ≠ (.slice Ao65 t194.length co65 : Value).ownBlock)) (by (with_reducible repeat (first | apply Kd.R_alloc | apply Kd.R_drewN | apply Kd.R_drew)); exact Kd.R_mono HO187.out (fun _ hk => ⟨⟨hk.1.1.1, ⟨hk.1.1.2, hk.2⟩⟩, hk.1.2⟩)) hg hat); have n3_ := Aside0.mk (Kd.R_after (ok := (fun k_ => some k_ ≠ (.slice Ao53 y172.length co53 : Value).ownBlock ∧ some k_ ≠ (.slice Ao56 t178.length co56 : Value).ownBlock ∧ some k_ ≠ (.slice Ao60 t185.length co60 : Value).ownBlock)) (by (with_reducible repeat (first | apply Kd.R_alloc | apply Kd.R_drewN | apply Kd.R_drew)); exact Kd.R_mono HO196.out (fun _ hk => ⟨⟨hk.1.1.1.2, ⟨hk.1.1.2, hk.1.2⟩⟩, hk.2⟩)) hg hat); have n4_ := Aside0.mk (hb); have n5_ := Aside0.mk (ho); clear HO174; clear HO180; clear HO187; clear HO196; clear HB; clear HO193; have HO174 := n0_; have HO180 := n1_; have HO187 := n2_; have HO196 := n3_; have HB := n4_; have HO199 := n5_; clear n0_ n1_ n2_ n3_ n4_ n5_; clear ho hb hg hat; obtain ⟨Ao66, co66, eo66⟩ := Kd.R_slice HO199.out; subst eo66) | ((with_reducible refine gate_callee (f := 74) rfl ?_); refine goesY_ (some 106) Try.func74 #[.slice Ao66 y197.length co66] rfl ?_; (with_reducible refine (spec_l9Sum.calls k1 _ _ y197 t200 _ ?_ ?_ A46.out).mono ?_); exact C_up (Kd.R_reads' HO199.out).2.2; exact (Kd.R_reads' HO199.out).2.1; rintro e w' ⟨rfl, ⟨nd, rfl⟩⟩; refine ⟨_, rfl, ?_⟩) | ((with_reducible refine gate_callee (f := 73) rfl ?_); refine goesY_ (some 107) Try.func73 #[.int .i64 t200] rfl ?_; (with_reducible refine (spec_l9Two.calls t200 t201 _ A47.out).mono ?_); rintro e w67 ⟨v202, rfl, ho0, hb⟩; refine ⟨_, rfl, ?_⟩; have n0_ := Aside0.mk (Kd.R_elder' (R_up HO174.out) (Kd.R_base ho0) hb); have n1_ := Aside0.mk (Kd.R_elder' (R_up HO180.out) (Kd.R_base ho0) hb); have n2_ := Aside0.mk (Kd.R_elder' (R_up HO187.out) (Kd.R_base ho0) hb); have n3_ := Aside0.mk (Kd.R_elder' (R_up HO196.out) (Kd.R_base ho0) hb); have n4_ := Aside0.mk (Kd.R_elder' (R_up HO199.out) (Kd.R_base ho0) hb); have n5_ := Aside0.mk (Kd.R_lower (Kd.R_new' (Kd.R_new' (Kd.R_new' (Kd.R_new' (Kd.R_new' ho0 (Kd.R_lt (R_up HO174.out))) (Kd.R_lt (R_up HO180.out))) (Kd.R_lt (R_up HO187.out))) (Kd.R_lt (R_up HO196.out))) (Kd.R_lt (R_up HO199.out))) (below_size (HB_up HB.out))); have n6_ := Aside0.mk (below_step (HB_up HB.out) hb); clear HO174; clear HO180; clear HO187; clear HO196; clear HO199; clear HB; have HO174 := n0_; have HO180 := n1_; have HO187 := n2_; have HO196 := n3_; have HO199 := n4_; have HO203 := n5_; have HB := n6_; clear n0_ n1_ n2_ n3_ n4_ n5_ n6_; (try clear hb); (try clear hb2); (try clear hk); (try clear hi); (try clear ho0); obtain ⟨Ao69, co69, eo69⟩ := Kd.R_slice HO203.out; subst eo69) | ((with_reducible refine gate_builtin (b := .append) (xs := #[.tmp 104, .tmp 107]) rfl ?_); at_builtin; refine Kd.R_append_rows (Kd.int .u8) (w0 := w) w.heap.size rfl (.tmp 104) (.tmp 107) 24 5 (.int .u8 0) 1 rfl Try.underlying24 info5 rfl (by decide) (by omega) (.slice Ao66 y197.length co66) y197 t201 _ _ _ (fun k_ => some k_ ≠ (.slice Ao53 y172.length co53 : Value).ownBlock ∧ some k_ ≠ (.slice Ao56 t178.length co56 : Value).ownBlock ∧ some k_ ≠ (.slice Ao60 t185.length co60 : Value).ownBlock ∧ some k_ ≠ (.slice Ao65 t194.length co65 : Value).ownBlock ∧ some k_ ≠ (.slice Ao69 t201.length co69 : Value).ownBlock) (fun _ => False) rfl rfl ?aO ?aR (fun _ _ h => h) (fun _ h => h.elim) ?aF ?aB ?aS ?aL ?_; (case aR => exact C_up (Kd.R_reads' HO203.out).2.2); (case aB => exact (HB_up HB.out)); (case aF => exact (fun k_ hk => ⟨Kd.fresh' (Kd.R_lt (R_up HO174.out)) k_ hk, Kd.fresh' (Kd.R_lt (R_up HO180.out)) k_ hk, Kd.fresh' (Kd.R_lt (R_up HO187.out)) k_ hk, Kd.fresh' (Kd.R_lt (R_up HO196.out)) k_ hk, Kd.fresh' (Kd.R_lt (R_up HO203.out)) k_ hk⟩)); (case aO => exact (by (with_reducible repeat (first | apply Kd.R_alloc | apply Kd.R_drewN | apply Kd.R_drew)); exact Kd.R_mono HO199.out (fun _ hk => ⟨hk.1.1, ⟨hk.1.2.1, ⟨hk.1.2.2.1, ⟨hk.1.2.2.2, hk.2⟩⟩⟩⟩))); (case aS => exact (below_size (HB_up HB.out))); (case aL => have := LMc48.out; omega); intro v205 w68 ho hb hg hat; rw [← Ny204.out] at ho; have n0_ := Aside0.mk (Kd.R_after (ok := (fun k_ => some k_ ≠ (.slice Ao56 t178.length co56 : Value).ownBlock ∧ some k_ ≠ (.slice Ao60 t185.length co60 : Value).ownBlock ∧ some k_ ≠ (.slice Ao65 t194.length co65 : Value).ownBlock ∧ some k_ ≠ (.slice Ao69 t201.length co69 : Value).ownBlock)) (by (with_reducible repeat (first | apply Kd.R_alloc | apply Kd.R_drewN | apply Kd.R_drew)); exact Kd.R_mono HO174.out (fun _ hk => ⟨⟨hk.1.1.1, ⟨hk.1.1.2.1, ⟨hk.1.1.2.2, hk.2⟩⟩⟩, hk.1.2⟩)) hg hat); have n1_ := Aside0.mk (Kd.R_after (ok := (fun k_ => some k_ ≠ (.slice Ao53 y172.length co53 : Value).ownBlock ∧ some k_ ≠ (.slice Ao60 t185.length co60 : Value).ownBlock ∧ some k_ ≠ (.slice Ao65 t194.length co65 : Value).ownBlock ∧ some k_ ≠ (.slice Ao69 t201.length co69 : Value).ownBlock)) (by (with_reducible repeat (first | apply Kd.R_alloc | apply Kd.R_drewN | apply Kd.R_drew)); exact Kd.R_mono HO180.out (fun _ hk => ⟨⟨hk.1.1.1, ⟨hk.1.1.2.1, ⟨hk.1.1.2.2, hk.2⟩⟩⟩, hk.1.2⟩)) hg hat); have n2_ := Aside0.mk (Kd.R_after (ok := (fun k_ => some k_ ≠ (.slice Ao53 y172.length co53 : Value).ownBlock ∧ some k_ ≠ (.slice Ao56 t178.length co56 : Value).ownBlock ∧ some k_ ≠ (.slice Ao65 t194.length co65 : Value).ownBlock ∧ some k_ ≠ (.slice Ao69 t201.length co69 : Value).ownBlock)) (by (with_reducible repeat (first | apply Kd.R_alloc | apply Kd.R_drewN | apply Kd.R_drew)); exact Kd.R_mono HO187.out (fun _ hk => ⟨⟨hk.1.1.1, ⟨hk.1.1.2.1, ⟨hk.1.1.2.2, hk.2⟩⟩⟩, hk.1.2⟩)) hg hat); have n3_ := Aside0.mk (Kd.R_after (ok := (fun k_ => some k_ ≠ (.slice Ao53 y172.length co53 : Value).ownBlock ∧ some k_ ≠ (.slice Ao56 t178.length co56 : Value).ownBlock ∧ some k_ ≠ (.slice Ao60 t185.length co60 : Value).ownBlock ∧ some k_ ≠ (.slice Ao69 t201.length co69 : Value).ownBlock)) (by (with_reducible repeat (first | apply Kd.R_alloc | apply Kd.R_drewN | apply Kd.R_drew)); exact Kd.R_mono HO196.out (fun _ hk => ⟨⟨hk.1.1.1, ⟨hk.1.1.2.1, ⟨hk.1.1.2.2, hk.2⟩⟩⟩, hk.1.2⟩)) hg hat); have n4_ := Aside0.mk (Kd.R_after (ok := (fun k_ => some k_ ≠ (.slice Ao53 y172.length co53 : Value).ownBlock ∧ some k_ ≠ (.slice Ao56 t178.length co56 : Value).ownBlock ∧ some k_ ≠ (.slice Ao60 t185.length co60 : Value).ownBlock ∧ some k_ ≠ (.slice Ao65 t194.length co65 : Value).ownBlock)) (by (with_reducible repeat (first | apply Kd.R_alloc | apply Kd.R_drewN | apply Kd.R_drew)); exact Kd.R_mono HO203.out (fun _ hk => ⟨⟨hk.1.1.1.1.2, ⟨hk.1.1.1.2, ⟨hk.1.1.2, hk.1.2⟩⟩⟩, hk.2⟩)) hg hat); have n5_ := Aside0.mk (hb); have n6_ := Aside0.mk (ho); clear HO174; clear HO180; clear HO187; clear HO196; clear HO203; clear HB; clear HO199; have HO174 := n0_; have HO180 := n1_; have HO187 := n2_; have HO196 := n3_; have HO203 := n4_; have HB := n5_; have HO206 := n6_; clear n0_ n1_ n2_ n3_ n4_ n5_ n6_; clear ho hb hg hat))
      go_ret
      exact ⟨_, ve_, by (with_reducible repeat (first | apply Kd.R_alloc | apply Kd.R_drewN | apply Kd.R_drew)); exact Kd.R_mono HO206.out (fun _ hk => trivial), hb_⟩
 · rw [if_neg c2] at H
   exact absurd H (by simp)

end Go.Proofs.Ytehdbobpbcjmeaa.PFnExactReadOp

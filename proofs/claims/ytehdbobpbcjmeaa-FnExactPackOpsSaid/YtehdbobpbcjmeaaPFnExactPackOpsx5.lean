/- Functions of the program as Lean functions, each with the proof that its call comes to what that function says (texts written by a program of this session). Conditions: those that stand in each theorem. -/
import Derived.Test.YtehdbobpbcjmeaaPFnExactPackOpsx0
import Derived.Test.YtehdbobpbcjmeaaPFnExactPackOpsx3
import Derived.Test.YtehdbobpbcjmeaaPFnExactPackOpsx4
namespace Go.Proofs.Ytehdbobpbcjmeaa.PFnExactPackOps
open Go.RowKit Go.Proofs.YtehdbobpbcjmeaaW.PrintWords Go.Proofs.YtehdbobpbcjmeaaW.PrintLast Go.Proofs.YtehdbobpbcjmeaaW.PrintMore
attribute [local go_sem] max2_int min2_int max_two min_two max_three min_three max_four min_four   -- for this text's walks alone
set_option linter.unusedVariables false
set_option linter.unusedSimpArgs false

/-! ### spec_l9Pack: function 42 -/
def spec_l9Pack.l0 : Nat → List (S37) → List Int → Int → Option (List Int)
 | 0, _, _, _ => none
 | k + 1, x0, x3, x4 => if 0 < (x0.length : Int) then (if x4 < (((rd_T37 x0 0).f3).length : Int) then (if 0 ≤ x4 then ((spec_l9Two.f (rd ((rd_T37 x0 0).f3) x4)).bind fun t170 => (if x3.length + t170.length < 140737488355328 then (spec_l9Pack.l0 k x0 (x3 ++ t170) (wrap64 (x4 + 1))) else (none))) else (none)) else ((some (([((rd_T37 x0 0).f4) % 256, ((rd_T37 x0 0).f5) % 256] : List Int) : List Int)).bind fun y177 => (if x3.length + y177.length < 140737488355328 then ((some (x3 ++ y177 : List Int)).bind fun y180 => ((spec_l9Two.f ((rd_T37 x0 0).f6)).bind fun t183 => (if y180.length + t183.length < 140737488355328 then ((some (y180 ++ t183 : List Int)).bind fun y186 => ((spec_l9Two.f (((rd_T37 x0 0).f7).length : Int)).bind fun t190 => (if y186.length + t190.length < 140737488355328 then ((some (y186 ++ t190 : List Int)).bind fun y193 => (if y193.length + ((rd_T37 x0 0).f7).length < 140737488355328 then ((some (y193 ++ ((rd_T37 x0 0).f7) : List Int)).bind fun y196 => ((spec_l9Two.f (wrap64 ((y196.length : Int) + 2))).bind fun t199 => ((some (cpy y196 t199 : List Int)).bind fun y202 => ((spec_l9Sum.f k y202).bind fun t205 => ((spec_l9Two.f t205).bind fun t206 => (if y202.length + t206.length < 140737488355328 then (some (y202 ++ t206)) else (none))))))) else (none))) else (none)))) else (none)))) else (none)))) else (none)
def spec_l9Pack.f (k : Nat) (l0 : List (S37)) : Option (List Int) := if 0 < (l0.length : Int) then ((some (([0, 0, ((rd_T37 l0 0).f0) % 256, ((((rd_T37 l0 0).f1).size : Int)) % 256] : List Int) : List Int)).bind fun y138 => (if ((rd_T37 l0 0).f1).size < 140737488355328 then ((some (bytesOf ((rd_T37 l0 0).f1) : List Int)).bind fun y142 => (if y138.length + y142.length < 140737488355328 then ((some (y138 ++ y142 : List Int)).bind fun y145 => ((some (([((((rd_T37 l0 0).f2).size : Int)) % 256] : List Int) : List Int)).bind fun y148 => (if y145.length + y148.length < 140737488355328 then ((some (y145 ++ y148 : List Int)).bind fun y151 => (if ((rd_T37 l0 0).f2).size < 140737488355328 then ((some (bytesOf ((rd_T37 l0 0).f2) : List Int)).bind fun y154 => (if y151.length + y154.length < 140737488355328 then ((some (y151 ++ y154 : List Int)).bind fun y157 => ((some (([((((rd_T37 l0 0).f3).length : Int)) % 256] : List Int) : List Int)).bind fun y161 => (if y157.length + y161.length < 140737488355328 then (spec_l9Pack.l0 k l0 (y157 ++ y161) 0) else (none)))) else (none))) else (none))) else (none)))) else (none))) else (none))) else (none)
theorem spec_l9Pack.mono_l : ∀ k, (∀ y0 y1 y2, LeO (spec_l9Pack.l0 k y0 y1 y2) (spec_l9Pack.l0 (k + 1) y0 y1 y2))
 | 0 => fun _ _ _ r h => by simp [spec_l9Pack.l0] at h
 | k + 1 => by
   have ih0 := spec_l9Pack.mono_l k
   · intro y0 y1 y2
     unfold spec_l9Pack.l0
     repeat' first
     | (with_reducible exact ih0 _ _ _)
     | (with_reducible exact spec_l9Sum.mono _ _)
     | (with_reducible exact LeO.refl _)
     | (with_reducible exact LeO.none _)
     | (with_reducible refine LeO.ite ?_ ?_)
     | (with_reducible refine LeO.bind ?_ (fun _ => ?_))
     | exact ih0 _ _ _
     | exact spec_l9Sum.mono _ _
     | exact LeO.none _
     | refine LeO.ite ?_ ?_
     | refine LeO.bind ?_ (fun _ => ?_)
theorem spec_l9Pack.mono : ∀ a0 k, LeO (spec_l9Pack.f k a0) (spec_l9Pack.f (k + 1) a0) := by
 intro a0 k
 have ih0 := spec_l9Pack.mono_l k
 unfold spec_l9Pack.f
 repeat' first
  | (with_reducible exact ih0 _ _ _)
  | (with_reducible exact spec_l9Sum.mono _ _)
  | (with_reducible exact LeO.refl _)
  | (with_reducible exact LeO.none _)
  | (with_reducible refine LeO.ite ?_ ?_)
  | (with_reducible refine LeO.bind ?_ (fun _ => ?_))
  | exact ih0 _ _ _
  | exact spec_l9Sum.mono _ _
  | exact LeO.none _
  | refine LeO.ite ?_ ?_
  | refine LeO.bind ?_ (fun _ => ?_)
def spec_l9Pack.T1 : Bool × List (List Nat × List Nat) := (true, [([], []), ([0], [0]), ([1], [1]), ([2], [2]), ([3], [3]), ([], []), ([5], [5]), ([6], [6]), ([7], [7]), ([8], [8]), ([9], [9]), ([4, 10], [4, 10]), ([11, 0, 1, 2, 3, 4, 5, 6, 7, 8, 9, 10, 11], [11])])
def spec_l9Pack.B1 : List Nat := [0, 1, 3, 7, 15, 0, 32, 96, 224, 480, 992, 2047, 4095]
theorem spec_l9Pack.tab1 : rtab .any (opsOf Try.f42 1) = spec_l9Pack.T1 := by kernel_rfl
theorem spec_l9Pack.bits1 : waitsOk spec_l9Pack.T1.2 spec_l9Pack.B1 = true := by kernel_rfl
def spec_l9Pack.T2 : Bool × List (List Nat × List Nat) := (true, [([], []), ([], []), ([1], [1]), ([2], [2]), ([3], [3]), ([4], [4]), ([0, 5], [0, 5]), ([], []), ([7], [7]), ([8], [8]), ([9], [9]), ([10], [10]), ([11], [11]), ([12], [12]), ([6, 13, 6], [6, 13]), ([], []), ([15], [15]), ([16], [16]), ([17], [17]), ([18], [18]), ([14, 19, 14], [14, 19]), ([20, 20, 0, 1, 2, 3, 4, 5, 6, 7, 8, 9, 10, 11, 12, 13, 14, 15, 16, 17, 18, 19, 20], [0, 20])])
def spec_l9Pack.B2 : List Nat := [0, 0, 2, 6, 14, 30, 63, 0, 128, 384, 896, 1920, 3968, 8064, 16383, 0, 32768, 98304, 229376, 491520, 1048575, 2097151]
theorem spec_l9Pack.tab2 : rtab .any (opsOf Try.f42 2) = spec_l9Pack.T2 := by kernel_rfl
theorem spec_l9Pack.bits2 : waitsOk spec_l9Pack.T2.2 spec_l9Pack.B2 = true := by kernel_rfl
def spec_l9Pack.T8 : Bool × List (List Nat × List Nat) := (true, [([], []), ([], []), ([1], [1]), ([2], [2]), ([3], [3]), ([4], [4]), ([], []), ([6], [6]), ([7], [7]), ([8], [8]), ([9], [9]), ([5, 10], [5, 10]), ([0, 11], [0, 11]), ([], []), ([13], [13]), ([14], [14]), ([15], [15]), ([16, 12], [16]), ([12, 17, 17], [12, 17]), ([18, 18, 0, 1, 2, 3, 4, 5, 6, 7, 8, 9, 10, 11, 12, 13, 14, 15, 16, 17, 18], [0, 18])])
def spec_l9Pack.B8 : List Nat := [0, 0, 2, 6, 14, 30, 0, 64, 192, 448, 960, 2046, 4095, 0, 8192, 24576, 57344, 131071, 262143, 524287]
theorem spec_l9Pack.tab8 : rtab .any (opsOf Try.f42 8) = spec_l9Pack.T8 := by kernel_rfl
theorem spec_l9Pack.bits8 : waitsOk spec_l9Pack.T8.2 spec_l9Pack.B8 = true := by kernel_rfl
def spec_l9Pack.T9 : Bool × List (List Nat × List Nat) := (true, [([], []), ([], []), ([1], [1]), ([2], [2]), ([3], [3]), ([4], [4]), ([5], [5]), ([0, 6, 6], [0, 6]), ([], []), ([8], [8]), ([9], [9]), ([10], [10]), ([7, 11, 7], [7, 11]), ([12, 12, 0, 1, 2, 3, 4, 5, 6, 7, 8, 9, 10, 11, 12], [0, 12])])
def spec_l9Pack.B9 : List Nat := [0, 0, 2, 6, 14, 30, 62, 127, 0, 256, 768, 1792, 4095, 8191]
theorem spec_l9Pack.tab9 : rtab .any (opsOf Try.f42 9) = spec_l9Pack.T9 := by kernel_rfl
theorem spec_l9Pack.bits9 : waitsOk spec_l9Pack.T9.2 spec_l9Pack.B9 = true := by kernel_rfl
set_option maxHeartbeats 8000000 in
set_option maxRecDepth 100000 in
theorem spec_l9Pack.calls (k : Nat) (A0 : Option Addr) (c0 : Nat) (l0 : List (S37)) (r : List Int) (w : World) (hr0 : Kd.C k37 w A0 l0.length l0) (hc0 : l0.length ≤ c0) (h : spec_l9Pack.f k l0 = some r) :
 Calls Try.prog 42 #[.pointer A0] w fun e w' => ∃ v0_ : Value, e = .returned (v0_) ∧ Kd.R (Kd.int .u8) 5 w' w.heap.size (fun _ => True) v0_ r ∧ Below w.heap.size w w' := by
 have HR0 := Aside0.mk hr0
 have HC0 := Aside0.mk hc0
 clear hr0 hc0
 have HB := Aside0.mk (Below.refl w.heap.size w)
 have H : (if 0 < (l0.length : Int) then ((some (([0, 0, ((rd_T37 l0 0).f0) % 256, ((((rd_T37 l0 0).f1).size : Int)) % 256] : List Int) : List Int)).bind fun y138 => (if ((rd_T37 l0 0).f1).size < 140737488355328 then ((some (bytesOf ((rd_T37 l0 0).f1) : List Int)).bind fun y142 => (if y138.length + y142.length < 140737488355328 then ((some (y138 ++ y142 : List Int)).bind fun y145 => ((some (([((((rd_T37 l0 0).f2).size : Int)) % 256] : List Int) : List Int)).bind fun y148 => (if y145.length + y148.length < 140737488355328 then ((some (y145 ++ y148 : List Int)).bind fun y151 => (if ((rd_T37 l0 0).f2).size < 140737488355328 then ((some (bytesOf ((rd_T37 l0 0).f2) : List Int)).bind fun y154 => (if y151.length + y154.length < 140737488355328 then ((some (y151 ++ y154 : List Int)).bind fun y157 => ((some (([((((rd_T37 l0 0).f3).length : Int)) % 256] : List Int) : List Int)).bind fun y161 => (if y157.length + y161.length < 140737488355328 then (spec_l9Pack.l0 k l0 (y157 ++ y161) 0) else (none)))) else (none))) else (none))) else (none)))) else (none))) else (none))) else (none)) = some r := h
 clear h
 by_cases c2 : 0 < (l0.length : Int)
 · rw [if_pos c2] at H
   have c2b0 : decide (0 < (l0.length : Int)) = true := decide_eq_true c2
   have c2b1 : decide (0 < l0.length) = true := decide_eq_true (by omega)
   clear c2
   obtain ⟨y138, hy138⟩ : ∃ y_ : List Int, y_ = (([0, 0, ((rd_T37 l0 0).f0) % 256, ((((rd_T37 l0 0).f1).size : Int)) % 256] : List Int)) := ⟨_, rfl⟩
   replace H : (if ((rd_T37 l0 0).f1).size < 140737488355328 then ((some (bytesOf ((rd_T37 l0 0).f1) : List Int)).bind fun y142 => (if y138.length + y142.length < 140737488355328 then ((some (y138 ++ y142 : List Int)).bind fun y145 => ((some (([((((rd_T37 l0 0).f2).size : Int)) % 256] : List Int) : List Int)).bind fun y148 => (if y145.length + y148.length < 140737488355328 then ((some (y145 ++ y148 : List Int)).bind fun y151 => (if ((rd_T37 l0 0).f2).size < 140737488355328 then ((some (bytesOf ((rd_T37 l0 0).f2) : List Int)).bind fun y154 => (if y151.length + y154.length < 140737488355328 then ((some (y151 ++ y154 : List Int)).bind fun y157 => ((some (([((((rd_T37 l0 0).f3).length : Int)) % 256] : List Int) : List Int)).bind fun y161 => (if y157.length + y161.length < 140737488355328 then (spec_l9Pack.l0 k l0 (y157 ++ y161) 0) else (none)))) else (none))) else (none))) else (none)))) else (none))) else (none)) = some r := by first | (rw [hy138]; with_reducible exact H) | (have H2_ := (Option.bind_some _ _).symm.trans H; rw [hy138]; with_reducible exact H2_) | (have H2_ := (Option.bind_some _ _).symm.trans H; with_reducible exact H2_) | with_reducible exact H | (rw [hy138]; exact H) | exact H
   have Ny138 := Aside0.mk hy138
   clear hy138
   by_cases c3 : ((rd_T37 l0 0).f1).size < 140737488355328
   case neg => rw [if_neg c3] at H; exact absurd H (by simp)
   rw [if_pos c3] at H
   have LMc3 := Aside0.mk c3
   clear c3
   obtain ⟨y142, hy142⟩ : ∃ y_ : List Int, y_ = (bytesOf ((rd_T37 l0 0).f1)) := ⟨_, rfl⟩
   replace H : (if y138.length + y142.length < 140737488355328 then ((some (y138 ++ y142 : List Int)).bind fun y145 => ((some (([((((rd_T37 l0 0).f2).size : Int)) % 256] : List Int) : List Int)).bind fun y148 => (if y145.length + y148.length < 140737488355328 then ((some (y145 ++ y148 : List Int)).bind fun y151 => (if ((rd_T37 l0 0).f2).size < 140737488355328 then ((some (bytesOf ((rd_T37 l0 0).f2) : List Int)).bind fun y154 => (if y151.length + y154.length < 140737488355328 then ((some (y151 ++ y154 : List Int)).bind fun y157 => ((some (([((((rd_T37 l0 0).f3).length : Int)) % 256] : List Int) : List Int)).bind fun y161 => (if y157.length + y161.length < 140737488355328 then (spec_l9Pack.l0 k l0 (y157 ++ y161) 0) else (none)))) else (none))) else (none))) else (none)))) else (none)) = some r := by first | (rw [hy142]; with_reducible exact H) | (have H2_ := (Option.bind_some _ _).symm.trans H; rw [hy142]; with_reducible exact H2_) | (have H2_ := (Option.bind_some _ _).symm.trans H; with_reducible exact H2_) | with_reducible exact H | (rw [hy142]; exact H) | exact H
   have Ny142 := Aside0.mk hy142
   clear hy142
   by_cases c4 : y138.length + y142.length < 140737488355328
   case neg => rw [if_neg c4] at H; exact absurd H (by simp)
   rw [if_pos c4] at H
   have LMc4 := Aside0.mk c4
   clear c4
   obtain ⟨y145, hy145⟩ : ∃ y_ : List Int, y_ = (y138 ++ y142) := ⟨_, rfl⟩
   replace H : ((some (([((((rd_T37 l0 0).f2).size : Int)) % 256] : List Int) : List Int)).bind fun y148 => (if y145.length + y148.length < 140737488355328 then ((some (y145 ++ y148 : List Int)).bind fun y151 => (if ((rd_T37 l0 0).f2).size < 140737488355328 then ((some (bytesOf ((rd_T37 l0 0).f2) : List Int)).bind fun y154 => (if y151.length + y154.length < 140737488355328 then ((some (y151 ++ y154 : List Int)).bind fun y157 => ((some (([((((rd_T37 l0 0).f3).length : Int)) % 256] : List Int) : List Int)).bind fun y161 => (if y157.length + y161.length < 140737488355328 then (spec_l9Pack.l0 k l0 (y157 ++ y161) 0) else (none)))) else (none))) else (none))) else (none))) = some r := by first | (rw [hy145]; with_reducible exact H) | (have H2_ := (Option.bind_some _ _).symm.trans H; rw [hy145]; with_reducible exact H2_) | (have H2_ := (Option.bind_some _ _).symm.trans H; with_reducible exact H2_) | with_reducible exact H | (rw [hy145]; exact H) | exact H
   have Ny145 := Aside0.mk hy145
   clear hy145
   obtain ⟨y148, hy148⟩ : ∃ y_ : List Int, y_ = (([((((rd_T37 l0 0).f2).size : Int)) % 256] : List Int)) := ⟨_, rfl⟩
   replace H : (if y145.length + y148.length < 140737488355328 then ((some (y145 ++ y148 : List Int)).bind fun y151 => (if ((rd_T37 l0 0).f2).size < 140737488355328 then ((some (bytesOf ((rd_T37 l0 0).f2) : List Int)).bind fun y154 => (if y151.length + y154.length < 140737488355328 then ((some (y151 ++ y154 : List Int)).bind fun y157 => ((some (([((((rd_T37 l0 0).f3).length : Int)) % 256] : List Int) : List Int)).bind fun y161 => (if y157.length + y161.length < 140737488355328 then (spec_l9Pack.l0 k l0 (y157 ++ y161) 0) else (none)))) else (none))) else (none))) else (none)) = some r := by first | (rw [hy148]; with_reducible exact H) | (have H2_ := (Option.bind_some _ _).symm.trans H; rw [hy148]; with_reducible exact H2_) | (have H2_ := (Option.bind_some _ _).symm.trans H; with_reducible exact H2_) | with_reducible exact H | (rw [hy148]; exact H) | exact H
   have Ny148 := Aside0.mk hy148
   clear hy148
   by_cases c5 : y145.length + y148.length < 140737488355328
   case neg => rw [if_neg c5] at H; exact absurd H (by simp)
   rw [if_pos c5] at H
   have LMc5 := Aside0.mk c5
   clear c5
   obtain ⟨y151, hy151⟩ : ∃ y_ : List Int, y_ = (y145 ++ y148) := ⟨_, rfl⟩
   replace H : (if ((rd_T37 l0 0).f2).size < 140737488355328 then ((some (bytesOf ((rd_T37 l0 0).f2) : List Int)).bind fun y154 => (if y151.length + y154.length < 140737488355328 then ((some (y151 ++ y154 : List Int)).bind fun y157 => ((some (([((((rd_T37 l0 0).f3).length : Int)) % 256] : List Int) : List Int)).bind fun y161 => (if y157.length + y161.length < 140737488355328 then (spec_l9Pack.l0 k l0 (y157 ++ y161) 0) else (none)))) else (none))) else (none)) = some r := by first | (rw [hy151]; with_reducible exact H) | (have H2_ := (Option.bind_some _ _).symm.trans H; rw [hy151]; with_reducible exact H2_) | (have H2_ := (Option.bind_some _ _).symm.trans H; with_reducible exact H2_) | with_reducible exact H | (rw [hy151]; exact H) | exact H
   have Ny151 := Aside0.mk hy151
   clear hy151
   by_cases c6 : ((rd_T37 l0 0).f2).size < 140737488355328
   case neg => rw [if_neg c6] at H; exact absurd H (by simp)
   rw [if_pos c6] at H
   have LMc6 := Aside0.mk c6
   clear c6
   obtain ⟨y154, hy154⟩ : ∃ y_ : List Int, y_ = (bytesOf ((rd_T37 l0 0).f2)) := ⟨_, rfl⟩
   replace H : (if y151.length + y154.length < 140737488355328 then ((some (y151 ++ y154 : List Int)).bind fun y157 => ((some (([((((rd_T37 l0 0).f3).length : Int)) % 256] : List Int) : List Int)).bind fun y161 => (if y157.length + y161.length < 140737488355328 then (spec_l9Pack.l0 k l0 (y157 ++ y161) 0) else (none)))) else (none)) = some r := by first | (rw [hy154]; with_reducible exact H) | (have H2_ := (Option.bind_some _ _).symm.trans H; rw [hy154]; with_reducible exact H2_) | (have H2_ := (Option.bind_some _ _).symm.trans H; with_reducible exact H2_) | with_reducible exact H | (rw [hy154]; exact H) | exact H
   have Ny154 := Aside0.mk hy154
   clear hy154
   by_cases c7 : y151.length + y154.length < 140737488355328
   case neg => rw [if_neg c7] at H; exact absurd H (by simp)
   rw [if_pos c7] at H
   have LMc7 := Aside0.mk c7
   clear c7
   obtain ⟨y157, hy157⟩ : ∃ y_ : List Int, y_ = (y151 ++ y154) := ⟨_, rfl⟩
   replace H : ((some (([((((rd_T37 l0 0).f3).length : Int)) % 256] : List Int) : List Int)).bind fun y161 => (if y157.length + y161.length < 140737488355328 then (spec_l9Pack.l0 k l0 (y157 ++ y161) 0) else (none))) = some r := by first | (rw [hy157]; with_reducible exact H) | (have H2_ := (Option.bind_some _ _).symm.trans H; rw [hy157]; with_reducible exact H2_) | (have H2_ := (Option.bind_some _ _).symm.trans H; with_reducible exact H2_) | with_reducible exact H | (rw [hy157]; exact H) | exact H
   have Ny157 := Aside0.mk hy157
   clear hy157
   obtain ⟨y161, hy161⟩ : ∃ y_ : List Int, y_ = (([((((rd_T37 l0 0).f3).length : Int)) % 256] : List Int)) := ⟨_, rfl⟩
   replace H : (if y157.length + y161.length < 140737488355328 then (spec_l9Pack.l0 k l0 (y157 ++ y161) 0) else (none)) = some r := by first | (rw [hy161]; with_reducible exact H) | (have H2_ := (Option.bind_some _ _).symm.trans H; rw [hy161]; with_reducible exact H2_) | (have H2_ := (Option.bind_some _ _).symm.trans H; with_reducible exact H2_) | with_reducible exact H | (rw [hy161]; exact H) | exact H
   have Ny161 := Aside0.mk hy161
   clear hy161
   by_cases c8 : y157.length + y161.length < 140737488355328
   case neg => rw [if_neg c8] at H; exact absurd H (by simp)
   rw [if_pos c8] at H
   have LMc8 := Aside0.mk c8
   clear c8
   obtain ⟨y164, hy164⟩ : ∃ y_ : List Int, y_ = (y157 ++ y161) := ⟨_, rfl⟩
   replace H : (spec_l9Pack.l0 k l0 y164 0) = some r := by first | (rw [hy164]; with_reducible exact H) | (have H2_ := (Option.bind_some _ _).symm.trans H; rw [hy164]; with_reducible exact H2_) | (have H2_ := (Option.bind_some _ _).symm.trans H; with_reducible exact H2_) | with_reducible exact H | (rw [hy164]; exact H) | exact H
   have Ny164 := Aside0.mk hy164
   clear hy164
   have H' := Aside0.mk H
   clear H
   go_enter Try.func42, Try.ntmps42
   try go_wp2
   have n0_ := Aside0.mk (below_drew1 HB.out)
   clear HB
   have HB := n0_
   clear n0_
   have p137 : 0 ≤ (0 : Int) := (by omega)
   have q137 : 0 < (l0.length : Int) := of_decide_eq_true (by first | (with_reducible assumption) | assumption)
   obtain ⟨ad137, A137_3, c137_3, A137_7, c137_7, e137, hx137_0, hx137_1, hx137_2, hx137_3, hx137_4, hx137_5, hx137_6, hx137_7, hl137_3, hi137_3, hl137_7, hi137_7⟩ := at_T37 HR0.out 0 p137 q137
   have hw137_7 := hx137_7
   (try simp only [Int.toNat_zero, Nat.zero_mul, Addr.add_zero'] at hw137_7)
   have hw137_6 := hx137_6
   (try simp only [Int.toNat_zero, Nat.zero_mul, Addr.add_zero'] at hw137_6)
   have hw137_5 := hx137_5
   (try simp only [Int.toNat_zero, Nat.zero_mul, Addr.add_zero'] at hw137_5)
   have hw137_4 := hx137_4
   (try simp only [Int.toNat_zero, Nat.zero_mul, Addr.add_zero'] at hw137_4)
   have hw137_3 := hx137_3
   (try simp only [Int.toNat_zero, Nat.zero_mul, Addr.add_zero'] at hw137_3)
   have hw137_2 := hx137_2
   (try simp only [Int.toNat_zero, Nat.zero_mul, Addr.add_zero'] at hw137_2)
   have hw137_1 := hx137_1
   (try simp only [Int.toNat_zero, Nat.zero_mul, Addr.add_zero'] at hw137_1)
   have hw137_0 := hx137_0
   (try simp only [Int.toNat_zero, Nat.zero_mul, Addr.add_zero'] at hw137_0)
   cases e137
   have qi137 : (0 < l0.length) = True := eq_true (by omega)
   (try simp only [Int.toNat_zero, Nat.zero_mul, Addr.add_zero'] at hx137_0 hx137_1 hx137_2 hx137_3 hx137_4 hx137_5 hx137_6 hx137_7)
   replace hx137_0 := ck_ HB.out hx137_0
   replace hx137_1 := ck_ HB.out hx137_1
   replace hx137_2 := ck_ HB.out hx137_2
   replace hx137_3 := ck_ HB.out hx137_3
   replace hx137_4 := ck_ HB.out hx137_4
   replace hx137_5 := ck_ HB.out hx137_5
   replace hx137_6 := ck_ HB.out hx137_6
   replace hx137_7 := ck_ HB.out hx137_7
   have HR137_3 := Aside0.mk hi137_3
   have HC137_3 := Aside0.mk hl137_3
   clear hi137_3 hl137_3
   have HR137_7 := Aside0.mk hi137_7
   have HC137_7 := Aside0.mk hl137_7
   clear hi137_7 hl137_7
   replace p137 := eq_true p137
   replace q137 := eq_true q137
   refine start_ (n := 13) (S := fun w' => w'.cell? ad137 = some (.int .i64 ((rd_T37 l0 0).f0)) ∧ w'.cell? ⟨ad137.block, ad137.off + 1, none⟩ = some (.string ((rd_T37 l0 0).f1)) ∧ w'.cell? ⟨ad137.block, ad137.off + 2, none⟩ = some (.string ((rd_T37 l0 0).f2)) ∧ w'.cell? ⟨ad137.block, ad137.off + 3, none⟩ = some (.slice A137_3 ((rd_T37 l0 0).f3).length c137_3) ∧ w'.cell? ⟨ad137.block, ad137.off + 4, none⟩ = some (.int .i64 ((rd_T37 l0 0).f4)) ∧ w'.cell? ⟨ad137.block, ad137.off + 5, none⟩ = some (.int .i64 ((rd_T37 l0 0).f5)) ∧ w'.cell? ⟨ad137.block, ad137.off + 6, none⟩ = some (.int .i64 ((rd_T37 l0 0).f6)) ∧ w'.cell? ⟨ad137.block, ad137.off + 7, none⟩ = some (.slice A137_7 ((rd_T37 l0 0).f7).length c137_7)) (ds := []) #[false, false, false, false, false, false, false, false, false, false, false, false, false] (by kernel_rfl) rfl rfl ⟨(ck_ HB.out hw137_0), (ck_ HB.out hw137_1), (ck_ HB.out hw137_2), (ck_ HB.out hw137_3), (ck_ HB.out hw137_4), (ck_ HB.out hw137_5), (ck_ HB.out hw137_6), (ck_ HB.out hw137_7)⟩ (fun hHeld => ?_); refine with_tabW spec_l9Pack.tab1 spec_l9Pack.bits1 (fun HT_ HW_ => ?_)
   generalize w.drew = w9 at HB HR137_3 HR137_7 hx137_0 hx137_1 hx137_2 hx137_3 hx137_4 hx137_5 hx137_6 hx137_7 hHeld ⊢
   refine pure_ (i := 0) (N := some 5) (v := ?_) (a' := ?_) #[true, false, false, false, false, false, false, false, false, false, false, false, false] rfl rfl (any_of HT_.out (by kernel_rfl)) (fun _ _ _ h => h) (Or.inl ⟨by rfl, ?_⟩) ?_ ?_; rotate_left
   · intro w'; go_simp; all_goals (first | with_reducible rfl | (simp [Instr.field, go_sem]; rfl))
   rotate_left
   · simp only [Act.put, List.setIfInBounds_toArray, List.set_cons_zero, List.set_cons_succ, i64_w, i32_w]; rfl
   refine pure_ (i := 1) (N := some 6) (v := ?_) (a' := ?_) #[true, true, false, false, false, false, false, false, false, false, false, false, false] rfl rfl (any_of HT_.out (by kernel_rfl)) (fun _ _ _ h => h) (Or.inl ⟨by rfl, ?_⟩) ?_ ?_; rotate_left
   · intro w'; go_simp; all_goals (first | with_reducible rfl | (simp [Instr.field, go_sem]; rfl))
   rotate_left
   · simp only [Act.put, List.setIfInBounds_toArray, List.set_cons_zero, List.set_cons_succ, i64_w, i32_w]; rfl
   refine pure_ (i := 2) (N := some 7) (v := ?_) (a' := ?_) #[true, true, true, false, false, false, false, false, false, false, false, false, false] rfl rfl (any_of HT_.out (by kernel_rfl)) (fun _ _ _ h => h) (Or.inl ⟨by rfl, ?_⟩) ?_ ?_; rotate_left
   · intro w'; go_simp; all_goals (first | with_reducible rfl | (simp [Instr.field, go_sem]; rfl))
   rotate_left
   · simp only [Act.put, List.setIfInBounds_toArray, List.set_cons_zero, List.set_cons_succ, i64_w, i32_w]; rfl
   refine pure_ (i := 5) (N := some 10) (v := ?_) (a' := ?_) #[true, true, true, false, false, true, false, false, false, false, false, false, false] rfl rfl (any_of HT_.out (by kernel_rfl)) (fun _ _ _ h => h) (Or.inl ⟨by rfl, ?_⟩) ?_ ?_; rotate_left
   · intro w'; go_simp; all_goals (first | with_reducible rfl | (simp [Instr.field, go_sem]; rfl))
   rotate_left
   · simp only [Act.put, List.setIfInBounds_toArray, List.set_cons_zero, List.set_cons_succ, i64_w, i32_w]; rfl
   refine pure_ (i := 6) (N := some 11) (v := ?_) (a' := ?_) #[true, true, true, false, false, true, true, false, false, false, false, false, false] rfl rfl (any_of HT_.out (by kernel_rfl)) (fun _ _ _ h => h) (Or.inl ⟨by rfl, ?_⟩) ?_ ?_; rotate_left
   · intro w'; go_simp; all_goals (first | with_reducible rfl | (simp [Instr.field, go_sem]; rfl))
   rotate_left
   · simp only [Act.put, List.setIfInBounds_toArray, List.set_cons_zero, List.set_cons_succ, i64_w, i32_w]; rfl
   refine pure_ (i := 7) (N := some 12) (v := ?_) (a' := ?_) #[true, true, true, false, false, true, true, true, false, false, false, false, false] rfl rfl (any_of HT_.out (by kernel_rfl)) (fun _ _ _ h => h) (Or.inl ⟨by rfl, ?_⟩) ?_ ?_; rotate_left
   · intro w'; go_simp; all_goals (first | with_reducible rfl | (simp [Instr.field, go_sem]; rfl))
   rotate_left
   · simp only [Act.put, List.setIfInBounds_toArray, List.set_cons_zero, List.set_cons_succ, i64_w, i32_w]; rfl
   refine take_ (i := 3) (N := some 8) (v := ?_) (a' := ?_) #[true, true, true, true, false, true, true, true, false, false, false, false, false] rfl rfl (take_ofW HT_.out HW_.out (by kernel_rfl)) (fun _ _ _ h => h) (Or.inl ⟨by rfl, ?_⟩) hHeld ?_ ?_; rotate_left
   · rintro w' ⟨s0, s1, s2, s3, s4, s5, s6, s7⟩; go_simp; all_goals (first | with_reducible rfl | (simp [Instr.field, go_sem]; rfl))
   rotate_left
   · simp only [Act.put, List.setIfInBounds_toArray, List.set_cons_zero, List.set_cons_succ, i64_w, i32_w]; rfl
   refine pure_ (i := 4) (N := some 9) (v := ?_) (a' := ?_) #[true, true, true, true, true, true, true, true, false, false, false, false, false] rfl rfl (any_of HT_.out (by kernel_rfl)) (fun _ _ _ h => h) (Or.inl ⟨by rfl, ?_⟩) ?_ ?_; rotate_left
   · intro w'; go_simp; all_goals (first | with_reducible rfl | (simp [Instr.field, go_sem]; rfl))
   rotate_left
   · simp only [Act.put, List.setIfInBounds_toArray, List.set_cons_zero, List.set_cons_succ, i64_w, i32_w]; rfl
   refine take_ (i := 8) (N := some 13) (v := ?_) (a' := ?_) #[true, true, true, true, true, true, true, true, true, false, false, false, false] rfl rfl (take_ofW HT_.out HW_.out (by kernel_rfl)) (fun _ _ _ h => h) (Or.inl ⟨by rfl, ?_⟩) hHeld ?_ ?_; rotate_left
   · rintro w' ⟨s0, s1, s2, s3, s4, s5, s6, s7⟩; go_simp; all_goals (first | with_reducible rfl | (simp [Instr.field, go_sem]; rfl))
   rotate_left
   · simp only [Act.put, List.setIfInBounds_toArray, List.set_cons_zero, List.set_cons_succ, i64_w, i32_w]; rfl
   refine pure_ (i := 9) (N := some 14) (v := ?_) (a' := ?_) #[true, true, true, true, true, true, true, true, true, true, false, false, false] rfl rfl (any_of HT_.out (by kernel_rfl)) (fun _ _ _ h => h) (Or.inl ⟨by rfl, ?_⟩) ?_ ?_; rotate_left
   · intro w'; go_simp; all_goals (first | with_reducible rfl | (simp [Instr.field, go_sem]; rfl))
   rotate_left
   · simp only [Act.put, List.setIfInBounds_toArray, List.set_cons_zero, List.set_cons_succ, i64_w, i32_w]; rfl
   refine pure_ (i := 10) (N := some 15) (v := ?_) (a' := ?_) #[true, true, true, true, true, true, true, true, true, true, true, false, false] rfl rfl (any_of HT_.out (by kernel_rfl)) (fun _ _ _ h => h) (Or.inl ⟨by rfl, ?_⟩) ?_ ?_; rotate_left
   · intro w'; go_simp; all_goals (first | with_reducible rfl | (simp [Instr.field, go_sem]; rfl))
   rotate_left
   · simp only [Act.put, List.setIfInBounds_toArray, List.set_cons_zero, List.set_cons_succ, i64_w, i32_w]; rfl
   refine one_ (i := 11) (N := some 16) #[true, true, true, true, true, true, true, true, true, true, true, true, false] rfl rfl (one_of HT_.out (by kernel_rfl)) (by decide) (fun K hK => ?_)
   refine Kd.R_lit_step (Kd.int .u8) _ 5 ?hg (N := 16) ?hd (xs := ([0, 0, ((rd_T37 l0 0).f0) % 256, ((((rd_T37 l0 0).f1).size : Int)) % 256] : List Int)) (inner := [.int .u8 0, .int .u8 0, .int .u8 (((rd_T37 l0 0).f0) % 256), .int .u8 (((((rd_T37 l0 0).f1).size : Int)) % 256)]) (ok := fun _ => True) (okp := fun _ => True) ?hr ?hp (fun _ hk => hk) trivial (Below.refl _ _) (Nat.le_refl _) (by simp) ?_; (case hd => rfl); (case hg => rfl); (case hr => first | (go_simp; done) | (go_simp; rfl)); (case hp => exact (Reps.one (show Kd.M (Kd.int .u8) _ _ _ 0 [.int .u8 0] from rfl) (Reps.one (show Kd.M (Kd.int .u8) _ _ _ 0 [.int .u8 0] from rfl) (Reps.one (show Kd.M (Kd.int .u8) _ _ _ (((rd_T37 l0 0).f0) % 256) [.int .u8 (((rd_T37 l0 0).f0) % 256)] from rfl) (Reps.one (show Kd.M (Kd.int .u8) _ _ _ (((((rd_T37 l0 0).f1).size : Int)) % 256) [.int .u8 (((((rd_T37 l0 0).f1).size : Int)) % 256)] from rfl) (Reps.none _ _))))))
   intro v139 w10 ho11 hb hg_ hnew_
   clear hg_ hnew_
   (first | rw [← Ny138.out] at ho11 | (simp only [Int.reduceToNat] at ho11; rw [← Ny138.out] at ho11))
   have n0_ := Aside0.mk (Kd.R_lower ho11 (below_size (HB_up HB.out)))
   have n1_ := Aside0.mk (below_step (HB_up HB.out) hb)
   clear HB
   have HO140 := n0_
   have HB := n1_
   clear n0_ n1_
   clear hb ho11
   refine hK.out _ _ ⟨(ck_ HB.out hw137_0), (ck_ HB.out hw137_1), (ck_ HB.out hw137_2), (ck_ HB.out hw137_3), (ck_ HB.out hw137_4), (ck_ HB.out hw137_5), (ck_ HB.out hw137_6), (ck_ HB.out hw137_7)⟩ (fun hHeld => ?_)
   clear hK K
   refine norm_ (a' := ?_) ?_ ?_
   rotate_left
   · show Act.put _ (some 16) _ = _
     simp only [Act.put, List.setIfInBounds_toArray, List.set_cons_zero, List.set_cons_succ, i64_w, i32_w]
     rfl
   refine pure_ (i := 12) (N := some 3) (v := ?_) (a' := ?_) #[true, true, true, true, true, true, true, true, true, true, true, true, true] rfl rfl (any_of HT_.out (by kernel_rfl)) (fun _ _ _ h => h) (Or.inl ⟨by rfl, ?_⟩) ?_ ?_; rotate_left
   · intro w'; go_simp; all_goals (first | with_reducible rfl | (simp [Instr.field, go_sem]; rfl))
   rotate_left
   · simp only [Act.put, List.setIfInBounds_toArray, List.set_cons_zero, List.set_cons_succ, i64_w, i32_w]; rfl
   refine done_ (done_of HT_.out (by kernel_rfl)) ?_
   obtain ⟨Ao12, co12, eo12⟩ := Kd.R_slice HO140.out
   subst eo12
   try go_wp2
   have n0_ := Aside0.mk (Kd.R_drew HO140.out)
   have n1_ := Aside0.mk (below_drew1 HB.out)
   clear HO140
   clear HB
   have HO140 := n0_
   have HB := n1_
   clear n0_ n1_
   have p141 : 0 ≤ (0 : Int) := (by omega)
   have q141 : 0 < (l0.length : Int) := of_decide_eq_true (by first | (with_reducible assumption) | assumption)
   obtain ⟨ad141, A141_3, c141_3, A141_7, c141_7, e141, hx141_0, hx141_1, hx141_2, hx141_3, hx141_4, hx141_5, hx141_6, hx141_7, hl141_3, hi141_3, hl141_7, hi141_7⟩ := at_T37 HR0.out 0 p141 q141
   have hw141_7 := hx141_7
   (try simp only [Int.toNat_zero, Nat.zero_mul, Addr.add_zero'] at hw141_7)
   have hw141_6 := hx141_6
   (try simp only [Int.toNat_zero, Nat.zero_mul, Addr.add_zero'] at hw141_6)
   have hw141_5 := hx141_5
   (try simp only [Int.toNat_zero, Nat.zero_mul, Addr.add_zero'] at hw141_5)
   have hw141_4 := hx141_4
   (try simp only [Int.toNat_zero, Nat.zero_mul, Addr.add_zero'] at hw141_4)
   have hw141_3 := hx141_3
   (try simp only [Int.toNat_zero, Nat.zero_mul, Addr.add_zero'] at hw141_3)
   have hw141_2 := hx141_2
   (try simp only [Int.toNat_zero, Nat.zero_mul, Addr.add_zero'] at hw141_2)
   have hw141_1 := hx141_1
   (try simp only [Int.toNat_zero, Nat.zero_mul, Addr.add_zero'] at hw141_1)
   have hw141_0 := hx141_0
   (try simp only [Int.toNat_zero, Nat.zero_mul, Addr.add_zero'] at hw141_0)
   obtain rfl : ad137 = ad141 := (by injection e141)
   have qi141 : (0 < l0.length) = True := eq_true (by omega)
   (try simp only [Int.toNat_zero, Nat.zero_mul, Addr.add_zero'] at hx141_0 hx141_1 hx141_2 hx141_3 hx141_4 hx141_5 hx141_6 hx141_7)
   replace hx141_0 := ck_ HB.out hx141_0
   replace hx141_1 := ck_ HB.out hx141_1
   replace hx141_2 := ck_ HB.out hx141_2
   replace hx141_3 := ck_ HB.out hx141_3
   replace hx141_4 := ck_ HB.out hx141_4
   replace hx141_5 := ck_ HB.out hx141_5
   replace hx141_6 := ck_ HB.out hx141_6
   replace hx141_7 := ck_ HB.out hx141_7
   have HR141_3 := Aside0.mk hi141_3
   have HC141_3 := Aside0.mk hl141_3
   clear hi141_3 hl141_3
   have HR141_7 := Aside0.mk hi141_7
   have HC141_7 := Aside0.mk hl141_7
   clear hi141_7 hl141_7
   replace p141 := eq_true p141
   replace q141 := eq_true q141
   refine start_ (n := 22) (S := fun w' => w'.cell? ad137 = some (.int .i64 ((rd_T37 l0 0).f0)) ∧ w'.cell? ⟨ad137.block, ad137.off + 1, none⟩ = some (.string ((rd_T37 l0 0).f1)) ∧ w'.cell? ⟨ad137.block, ad137.off + 2, none⟩ = some (.string ((rd_T37 l0 0).f2)) ∧ w'.cell? ⟨ad137.block, ad137.off + 3, none⟩ = some (.slice A141_3 ((rd_T37 l0 0).f3).length c141_3) ∧ w'.cell? ⟨ad137.block, ad137.off + 4, none⟩ = some (.int .i64 ((rd_T37 l0 0).f4)) ∧ w'.cell? ⟨ad137.block, ad137.off + 5, none⟩ = some (.int .i64 ((rd_T37 l0 0).f5)) ∧ w'.cell? ⟨ad137.block, ad137.off + 6, none⟩ = some (.int .i64 ((rd_T37 l0 0).f6)) ∧ w'.cell? ⟨ad137.block, ad137.off + 7, none⟩ = some (.slice A141_7 ((rd_T37 l0 0).f7).length c141_7)) (ds := []) #[false, false, false, false, false, false, false, false, false, false, false, false, false, false, false, false, false, false, false, false, false, false] (by kernel_rfl) rfl rfl ⟨(ck_ HB.out hw141_0), (ck_ HB.out hw141_1), (ck_ HB.out hw141_2), (ck_ HB.out hw141_3), (ck_ HB.out hw141_4), (ck_ HB.out hw141_5), (ck_ HB.out hw141_6), (ck_ HB.out hw141_7)⟩ (fun hHeld => ?_); refine with_tabW spec_l9Pack.tab2 spec_l9Pack.bits2 (fun HT_ HW_ => ?_)
   generalize w10.drew = w13 at HO140 HB HR141_3 HR141_7 hx141_0 hx141_1 hx141_2 hx141_3 hx141_4 hx141_5 hx141_6 hx141_7 hHeld ⊢
   refine pure_ (i := 0) (N := some 17) (v := ?_) (a' := ?_) #[true, false, false, false, false, false, false, false, false, false, false, false, false, false, false, false, false, false, false, false, false, false] rfl rfl (any_of HT_.out (by kernel_rfl)) (fun _ _ _ h => h) (Or.inl ⟨by rfl, ?_⟩) ?_ ?_; rotate_left
   · intro w'; go_simp; all_goals (first | with_reducible rfl | (simp [Instr.field, go_sem]; rfl))
   rotate_left
   · simp only [Act.put, List.setIfInBounds_toArray, List.set_cons_zero, List.set_cons_succ, i64_w, i32_w]; rfl
   refine pure_ (i := 1) (N := some 18) (v := ?_) (a' := ?_) #[true, true, false, false, false, false, false, false, false, false, false, false, false, false, false, false, false, false, false, false, false, false] rfl rfl (any_of HT_.out (by kernel_rfl)) (fun _ _ _ h => h) (Or.inl ⟨by rfl, ?_⟩) ?_ ?_; rotate_left
   · intro w'; go_simp; all_goals (first | with_reducible rfl | (simp [Instr.field, go_sem]; rfl))
   rotate_left
   · simp only [Act.put, List.setIfInBounds_toArray, List.set_cons_zero, List.set_cons_succ, i64_w, i32_w]; rfl
   refine pure_ (i := 2) (N := some 19) (v := ?_) (a' := ?_) #[true, true, true, false, false, false, false, false, false, false, false, false, false, false, false, false, false, false, false, false, false, false] rfl rfl (any_of HT_.out (by kernel_rfl)) (fun _ _ _ h => h) (Or.inl ⟨by rfl, ?_⟩) ?_ ?_; rotate_left
   · intro w'; go_simp; all_goals (first | with_reducible rfl | (simp [Instr.field, go_sem]; rfl))
   rotate_left
   · simp only [Act.put, List.setIfInBounds_toArray, List.set_cons_zero, List.set_cons_succ, i64_w, i32_w]; rfl
   refine pure_ (i := 3) (N := some 20) (v := ?_) (a' := ?_) #[true, true, true, true, false, false, false, false, false, false, false, false, false, false, false, false, false, false, false, false, false, false] rfl rfl (any_of HT_.out (by kernel_rfl)) (fun _ _ _ h => h) (Or.inl ⟨by rfl, ?_⟩) ?_ ?_; rotate_left
   · intro w'; go_simp; all_goals (first | with_reducible rfl | (simp [Instr.field, go_sem]; rfl))
   rotate_left
   · simp only [Act.put, List.setIfInBounds_toArray, List.set_cons_zero, List.set_cons_succ, i64_w, i32_w]; rfl
   refine pure_ (i := 7) (N := some 24) (v := ?_) (a' := ?_) #[true, true, true, true, false, false, false, true, false, false, false, false, false, false, false, false, false, false, false, false, false, false] rfl rfl (any_of HT_.out (by kernel_rfl)) (fun _ _ _ h => h) (Or.inl ⟨by rfl, ?_⟩) ?_ ?_; rotate_left
   · intro w'; go_simp; all_goals (first | with_reducible rfl | (simp [Instr.field, go_sem]; rfl))
   rotate_left
   · simp only [Act.put, List.setIfInBounds_toArray, List.set_cons_zero, List.set_cons_succ, i64_w, i32_w]; rfl
   refine pure_ (i := 8) (N := some 25) (v := ?_) (a' := ?_) #[true, true, true, true, false, false, false, true, true, false, false, false, false, false, false, false, false, false, false, false, false, false] rfl rfl (any_of HT_.out (by kernel_rfl)) (fun _ _ _ h => h) (Or.inl ⟨by rfl, ?_⟩) ?_ ?_; rotate_left
   · intro w'; go_simp; all_goals (first | with_reducible rfl | (simp [Instr.field, go_sem]; rfl))
   rotate_left
   · simp only [Act.put, List.setIfInBounds_toArray, List.set_cons_zero, List.set_cons_succ, i64_w, i32_w]; rfl
   refine pure_ (i := 9) (N := some 26) (v := ?_) (a' := ?_) #[true, true, true, true, false, false, false, true, true, true, false, false, false, false, false, false, false, false, false, false, false, false] rfl rfl (any_of HT_.out (by kernel_rfl)) (fun _ _ _ h => h) (Or.inl ⟨by rfl, ?_⟩) ?_ ?_; rotate_left
   · intro w'; go_simp; all_goals (first | with_reducible rfl | (simp [Instr.field, go_sem]; rfl))
   rotate_left
   · simp only [Act.put, List.setIfInBounds_toArray, List.set_cons_zero, List.set_cons_succ, i64_w, i32_w]; rfl
   refine pure_ (i := 15) (N := some 32) (v := ?_) (a' := ?_) #[true, true, true, true, false, false, false, true, true, true, false, false, false, false, false, true, false, false, false, false, false, false] rfl rfl (any_of HT_.out (by kernel_rfl)) (fun _ _ _ h => h) (Or.inl ⟨by rfl, ?_⟩) ?_ ?_; rotate_left
   · intro w'; go_simp; all_goals (first | with_reducible rfl | (simp [Instr.field, go_sem]; rfl))
   rotate_left
   · simp only [Act.put, List.setIfInBounds_toArray, List.set_cons_zero, List.set_cons_succ, i64_w, i32_w]; rfl
   refine pure_ (i := 16) (N := some 33) (v := ?_) (a' := ?_) #[true, true, true, true, false, false, false, true, true, true, false, false, false, false, false, true, true, false, false, false, false, false] rfl rfl (any_of HT_.out (by kernel_rfl)) (fun _ _ _ h => h) (Or.inl ⟨by rfl, ?_⟩) ?_ ?_; rotate_left
   · intro w'; go_simp; all_goals (first | with_reducible rfl | (simp [Instr.field, go_sem]; rfl))
   rotate_left
   · simp only [Act.put, List.setIfInBounds_toArray, List.set_cons_zero, List.set_cons_succ, i64_w, i32_w]; rfl
   refine pure_ (i := 17) (N := some 34) (v := ?_) (a' := ?_) #[true, true, true, true, false, false, false, true, true, true, false, false, false, false, false, true, true, true, false, false, false, false] rfl rfl (any_of HT_.out (by kernel_rfl)) (fun _ _ _ h => h) (Or.inl ⟨by rfl, ?_⟩) ?_ ?_; rotate_left
   · intro w'; go_simp; all_goals (first | with_reducible rfl | (simp [Instr.field, go_sem]; rfl))
   rotate_left
   · simp only [Act.put, List.setIfInBounds_toArray, List.set_cons_zero, List.set_cons_succ, i64_w, i32_w]; rfl
   refine take_ (i := 4) (N := some 21) (v := ?_) (a' := ?_) #[true, true, true, true, true, false, false, true, true, true, false, false, false, false, false, true, true, true, false, false, false, false] rfl rfl (take_ofW HT_.out HW_.out (by kernel_rfl)) (fun _ _ _ h => h) (Or.inl ⟨by rfl, ?_⟩) hHeld ?_ ?_; rotate_left
   · rintro w' ⟨s0, s1, s2, s3, s4, s5, s6, s7⟩; go_simp; all_goals (first | with_reducible rfl | (simp [Instr.field, go_sem]; rfl))
   rotate_left
   · simp only [Act.put, List.setIfInBounds_toArray, List.set_cons_zero, List.set_cons_succ, i64_w, i32_w]; rfl
   refine take_ (i := 10) (N := some 27) (v := ?_) (a' := ?_) #[true, true, true, true, true, false, false, true, true, true, true, false, false, false, false, true, true, true, false, false, false, false] rfl rfl (take_ofW HT_.out HW_.out (by kernel_rfl)) (fun _ _ _ h => h) (Or.inl ⟨by rfl, ?_⟩) hHeld ?_ ?_; rotate_left
   · rintro w' ⟨s0, s1, s2, s3, s4, s5, s6, s7⟩; go_simp; all_goals (first | with_reducible rfl | (simp [Instr.field, go_sem]; rfl))
   rotate_left
   · simp only [Act.put, List.setIfInBounds_toArray, List.set_cons_zero, List.set_cons_succ, i64_w, i32_w]; rfl
   refine pure_ (i := 11) (N := some 28) (v := ?_) (a' := ?_) #[true, true, true, true, true, false, false, true, true, true, true, true, false, false, false, true, true, true, false, false, false, false] rfl rfl (any_of HT_.out (by kernel_rfl)) (fun _ _ _ h => h) (Or.inl ⟨by rfl, ?_⟩) ?_ ?_; rotate_left
   · intro w'; go_simp; all_goals (first | with_reducible rfl | (simp [Instr.field, go_sem]; rfl))
   rotate_left
   · simp only [Act.put, List.setIfInBounds_toArray, List.set_cons_zero, List.set_cons_succ, i64_w, i32_w]; rfl
   refine pure_ (i := 12) (N := some 29) (v := ?_) (a' := ?_) #[true, true, true, true, true, false, false, true, true, true, true, true, true, false, false, true, true, true, false, false, false, false] rfl rfl (any_of HT_.out (by kernel_rfl)) (fun _ _ _ h => h) (Or.inl ⟨by rfl, ?_⟩) ?_ ?_; rotate_left
   · intro w'; go_simp; all_goals (first | with_reducible rfl | (simp [Instr.field, go_sem]; rfl))
   rotate_left
   · simp only [Act.put, List.setIfInBounds_toArray, List.set_cons_zero, List.set_cons_succ, i64_w, i32_w]; rfl
   refine take_ (i := 18) (N := some 35) (v := ?_) (a' := ?_) #[true, true, true, true, true, false, false, true, true, true, true, true, true, false, false, true, true, true, true, false, false, false] rfl rfl (take_ofW HT_.out HW_.out (by kernel_rfl)) (fun _ _ _ h => h) (Or.inl ⟨by rfl, ?_⟩) hHeld ?_ ?_; rotate_left
   · rintro w' ⟨s0, s1, s2, s3, s4, s5, s6, s7⟩; go_simp; all_goals (first | with_reducible rfl | (simp [Instr.field, go_sem]; rfl))
   rotate_left
   · simp only [Act.put, List.setIfInBounds_toArray, List.set_cons_zero, List.set_cons_succ, i64_w, i32_w]; rfl
   refine join_ (σ := Value × Value × Value × Value × Value) 2 #[true, true, true, true, true, true, true, true, true, true, true, true, true, true, true, true, true, true, true, true, false, false] (fun s_ => [(22, s_.1), (23, s_.2.1), (30, s_.2.2.1), (31, s_.2.2.2.1), (36, s_.2.2.2.2)]) (fun s_ w' => (w'.cell? ad137 = some (.int .i64 ((rd_T37 l0 0).f0)) ∧ w'.cell? ⟨ad137.block, ad137.off + 1, none⟩ = some (.string ((rd_T37 l0 0).f1)) ∧ w'.cell? ⟨ad137.block, ad137.off + 2, none⟩ = some (.string ((rd_T37 l0 0).f2)) ∧ w'.cell? ⟨ad137.block, ad137.off + 3, none⟩ = some (.slice A141_3 ((rd_T37 l0 0).f3).length c141_3) ∧ w'.cell? ⟨ad137.block, ad137.off + 4, none⟩ = some (.int .i64 ((rd_T37 l0 0).f4)) ∧ w'.cell? ⟨ad137.block, ad137.off + 5, none⟩ = some (.int .i64 ((rd_T37 l0 0).f5)) ∧ w'.cell? ⟨ad137.block, ad137.off + 6, none⟩ = some (.int .i64 ((rd_T37 l0 0).f6)) ∧ w'.cell? ⟨ad137.block, ad137.off + 7, none⟩ = some (.slice A141_7 ((rd_T37 l0 0).f7).length c141_7)) ∧ (Kd.V (Kd.int .u8) 5 w' w.heap.size (fun k_ => some k_ ≠ (s_.2.2.1 : Value).ownBlock ∧ some k_ ≠ (s_.2.2.2.1 : Value).ownBlock) s_.1 y142) ∧ (Kd.R (Kd.int .u8) 5 w' w.heap.size (fun k_ => some k_ ≠ (s_.2.2.2.1 : Value).ownBlock) s_.2.2.1 y148) ∧ (Kd.R (Kd.int .u8) 5 w' w.heap.size (fun k_ => some k_ ≠ (s_.2.2.1 : Value).ownBlock) s_.2.2.2.1 y151) ∧ (Kd.V (Kd.int .u8) 5 w' w.heap.size (fun k_ => some k_ ≠ (s_.2.2.1 : Value).ownBlock ∧ some k_ ≠ (s_.2.2.2.1 : Value).ownBlock) s_.2.2.2.2 y154) ∧ (Below w.heap.size w w')) ?_ ?_
   rotate_left
   · intro hJ5_6_13_14_19
     refine join_ (σ := Value × Value × Value × Value) 3 #[true, true, true, true, true, true, true, true, true, true, true, true, true, true, true, true, true, true, true, false, false, false] (fun s_ => [(22, s_.1), (23, s_.2.1), (30, s_.2.2.1), (31, s_.2.2.2)]) (fun s_ w' => (w'.cell? ad137 = some (.int .i64 ((rd_T37 l0 0).f0)) ∧ w'.cell? ⟨ad137.block, ad137.off + 1, none⟩ = some (.string ((rd_T37 l0 0).f1)) ∧ w'.cell? ⟨ad137.block, ad137.off + 2, none⟩ = some (.string ((rd_T37 l0 0).f2)) ∧ w'.cell? ⟨ad137.block, ad137.off + 3, none⟩ = some (.slice A141_3 ((rd_T37 l0 0).f3).length c141_3) ∧ w'.cell? ⟨ad137.block, ad137.off + 4, none⟩ = some (.int .i64 ((rd_T37 l0 0).f4)) ∧ w'.cell? ⟨ad137.block, ad137.off + 5, none⟩ = some (.int .i64 ((rd_T37 l0 0).f5)) ∧ w'.cell? ⟨ad137.block, ad137.off + 6, none⟩ = some (.int .i64 ((rd_T37 l0 0).f6)) ∧ w'.cell? ⟨ad137.block, ad137.off + 7, none⟩ = some (.slice A141_7 ((rd_T37 l0 0).f7).length c141_7)) ∧ (Kd.V (Kd.int .u8) 5 w' w.heap.size (fun k_ => some k_ ≠ (s_.2.2.1 : Value).ownBlock ∧ some k_ ≠ (s_.2.2.2 : Value).ownBlock) s_.1 y142) ∧ (Kd.R (Kd.int .u8) 5 w' w.heap.size (fun k_ => some k_ ≠ (s_.2.2.2 : Value).ownBlock) s_.2.2.1 y148) ∧ (Kd.R (Kd.int .u8) 5 w' w.heap.size (fun k_ => some k_ ≠ (s_.2.2.1 : Value).ownBlock) s_.2.2.2 y151) ∧ (Below w.heap.size w w')) ?_ ?_
     rotate_left
     · intro hJ5_6_13_14
       refine join_ (σ := Value × Value × Value × Value) 3 #[true, true, true, true, true, true, true, true, true, true, true, true, true, true, false, true, true, true, true, true, false, false] (fun s_ => [(22, s_.1), (23, s_.2.1), (30, s_.2.2.1), (36, s_.2.2.2)]) (fun s_ w' => (w'.cell? ad137 = some (.int .i64 ((rd_T37 l0 0).f0)) ∧ w'.cell? ⟨ad137.block, ad137.off + 1, none⟩ = some (.string ((rd_T37 l0 0).f1)) ∧ w'.cell? ⟨ad137.block, ad137.off + 2, none⟩ = some (.string ((rd_T37 l0 0).f2)) ∧ w'.cell? ⟨ad137.block, ad137.off + 3, none⟩ = some (.slice A141_3 ((rd_T37 l0 0).f3).length c141_3) ∧ w'.cell? ⟨ad137.block, ad137.off + 4, none⟩ = some (.int .i64 ((rd_T37 l0 0).f4)) ∧ w'.cell? ⟨ad137.block, ad137.off + 5, none⟩ = some (.int .i64 ((rd_T37 l0 0).f5)) ∧ w'.cell? ⟨ad137.block, ad137.off + 6, none⟩ = some (.int .i64 ((rd_T37 l0 0).f6)) ∧ w'.cell? ⟨ad137.block, ad137.off + 7, none⟩ = some (.slice A141_7 ((rd_T37 l0 0).f7).length c141_7)) ∧ (Kd.V (Kd.int .u8) 5 w' w.heap.size (fun k_ => some k_ ≠ (s_.2.1 : Value).ownBlock ∧ some k_ ≠ (s_.2.2.1 : Value).ownBlock) s_.1 y142) ∧ (Kd.R (Kd.int .u8) 5 w' w.heap.size (fun k_ => some k_ ≠ (s_.2.2.1 : Value).ownBlock) s_.2.1 y145) ∧ (Kd.R (Kd.int .u8) 5 w' w.heap.size (fun k_ => some k_ ≠ (s_.2.1 : Value).ownBlock) s_.2.2.1 y148) ∧ (Kd.V (Kd.int .u8) 5 w' w.heap.size (fun k_ => some k_ ≠ (s_.2.1 : Value).ownBlock ∧ some k_ ≠ (s_.2.2.1 : Value).ownBlock) s_.2.2.2 y154) ∧ (Below w.heap.size w w')) ?_ ?_
       rotate_left
       · intro hJ5_6_13_19
         refine join_ (σ := Value × Value × Value) 4 #[true, true, true, true, true, true, true, true, true, true, true, true, true, true, false, true, true, true, true, false, false, false] (fun s_ => [(22, s_.1), (23, s_.2.1), (30, s_.2.2)]) (fun s_ w' => (w'.cell? ad137 = some (.int .i64 ((rd_T37 l0 0).f0)) ∧ w'.cell? ⟨ad137.block, ad137.off + 1, none⟩ = some (.string ((rd_T37 l0 0).f1)) ∧ w'.cell? ⟨ad137.block, ad137.off + 2, none⟩ = some (.string ((rd_T37 l0 0).f2)) ∧ w'.cell? ⟨ad137.block, ad137.off + 3, none⟩ = some (.slice A141_3 ((rd_T37 l0 0).f3).length c141_3) ∧ w'.cell? ⟨ad137.block, ad137.off + 4, none⟩ = some (.int .i64 ((rd_T37 l0 0).f4)) ∧ w'.cell? ⟨ad137.block, ad137.off + 5, none⟩ = some (.int .i64 ((rd_T37 l0 0).f5)) ∧ w'.cell? ⟨ad137.block, ad137.off + 6, none⟩ = some (.int .i64 ((rd_T37 l0 0).f6)) ∧ w'.cell? ⟨ad137.block, ad137.off + 7, none⟩ = some (.slice A141_7 ((rd_T37 l0 0).f7).length c141_7)) ∧ (Kd.V (Kd.int .u8) 5 w' w.heap.size (fun k_ => some k_ ≠ (s_.2.1 : Value).ownBlock ∧ some k_ ≠ (s_.2.2 : Value).ownBlock) s_.1 y142) ∧ (Kd.R (Kd.int .u8) 5 w' w.heap.size (fun k_ => some k_ ≠ (s_.2.2 : Value).ownBlock) s_.2.1 y145) ∧ (Kd.R (Kd.int .u8) 5 w' w.heap.size (fun k_ => some k_ ≠ (s_.2.1 : Value).ownBlock) s_.2.2 y148) ∧ (Below w.heap.size w w')) ?_ ?_
         rotate_left
         · intro hJ5_6_13
           refine join_ (σ := Value × Value × Value) 4 #[true, true, true, true, true, true, true, true, true, true, true, true, true, false, false, true, true, true, true, true, false, false] (fun s_ => [(22, s_.1), (23, s_.2.1), (36, s_.2.2)]) (fun s_ w' => (w'.cell? ad137 = some (.int .i64 ((rd_T37 l0 0).f0)) ∧ w'.cell? ⟨ad137.block, ad137.off + 1, none⟩ = some (.string ((rd_T37 l0 0).f1)) ∧ w'.cell? ⟨ad137.block, ad137.off + 2, none⟩ = some (.string ((rd_T37 l0 0).f2)) ∧ w'.cell? ⟨ad137.block, ad137.off + 3, none⟩ = some (.slice A141_3 ((rd_T37 l0 0).f3).length c141_3) ∧ w'.cell? ⟨ad137.block, ad137.off + 4, none⟩ = some (.int .i64 ((rd_T37 l0 0).f4)) ∧ w'.cell? ⟨ad137.block, ad137.off + 5, none⟩ = some (.int .i64 ((rd_T37 l0 0).f5)) ∧ w'.cell? ⟨ad137.block, ad137.off + 6, none⟩ = some (.int .i64 ((rd_T37 l0 0).f6)) ∧ w'.cell? ⟨ad137.block, ad137.off + 7, none⟩ = some (.slice A141_7 ((rd_T37 l0 0).f7).length c141_7)) ∧ (Kd.V (Kd.int .u8) 5 w' w.heap.size (fun k_ => some k_ ≠ (s_.2.1 : Value).ownBlock) s_.1 y142) ∧ (Kd.R (Kd.int .u8) 5 w' w.heap.size (fun _ => True) s_.2.1 y145) ∧ (Kd.V (Kd.int .u8) 5 w' w.heap.size (fun k_ => some k_ ≠ (s_.2.1 : Value).ownBlock) s_.2.2 y154) ∧ (Below w.heap.size w w')) ?_ ?_
           rotate_left
           · intro hJ5_6_19
             refine join_ (σ := Value × Value × Value) 4 #[true, true, true, true, true, true, false, true, true, true, true, true, true, true, false, true, true, true, true, true, false, false] (fun s_ => [(22, s_.1), (30, s_.2.1), (36, s_.2.2)]) (fun s_ w' => (w'.cell? ad137 = some (.int .i64 ((rd_T37 l0 0).f0)) ∧ w'.cell? ⟨ad137.block, ad137.off + 1, none⟩ = some (.string ((rd_T37 l0 0).f1)) ∧ w'.cell? ⟨ad137.block, ad137.off + 2, none⟩ = some (.string ((rd_T37 l0 0).f2)) ∧ w'.cell? ⟨ad137.block, ad137.off + 3, none⟩ = some (.slice A141_3 ((rd_T37 l0 0).f3).length c141_3) ∧ w'.cell? ⟨ad137.block, ad137.off + 4, none⟩ = some (.int .i64 ((rd_T37 l0 0).f4)) ∧ w'.cell? ⟨ad137.block, ad137.off + 5, none⟩ = some (.int .i64 ((rd_T37 l0 0).f5)) ∧ w'.cell? ⟨ad137.block, ad137.off + 6, none⟩ = some (.int .i64 ((rd_T37 l0 0).f6)) ∧ w'.cell? ⟨ad137.block, ad137.off + 7, none⟩ = some (.slice A141_7 ((rd_T37 l0 0).f7).length c141_7)) ∧ (Kd.R (Kd.int .u8) 5 w' w.heap.size (fun k_ => some k_ ≠ (s_.2.1 : Value).ownBlock) (.slice Ao12 y138.length co12) y138) ∧ (Kd.V (Kd.int .u8) 5 w' w.heap.size (fun k_ => some k_ ≠ (.slice Ao12 y138.length co12 : Value).ownBlock ∧ some k_ ≠ (s_.2.1 : Value).ownBlock) s_.1 y142) ∧ (Kd.R (Kd.int .u8) 5 w' w.heap.size (fun k_ => some k_ ≠ (.slice Ao12 y138.length co12 : Value).ownBlock) s_.2.1 y148) ∧ (Kd.V (Kd.int .u8) 5 w' w.heap.size (fun k_ => some k_ ≠ (.slice Ao12 y138.length co12 : Value).ownBlock ∧ some k_ ≠ (s_.2.1 : Value).ownBlock) s_.2.2 y154) ∧ (Below w.heap.size w w')) ?_ ?_
             rotate_left
             · intro hJ5_13_19
               refine join_ (σ := Value × Value) 5 #[true, true, true, true, true, true, true, true, true, true, true, true, true, false, false, true, true, true, true, false, false, false] (fun s_ => [(22, s_.1), (23, s_.2)]) (fun s_ w' => (w'.cell? ad137 = some (.int .i64 ((rd_T37 l0 0).f0)) ∧ w'.cell? ⟨ad137.block, ad137.off + 1, none⟩ = some (.string ((rd_T37 l0 0).f1)) ∧ w'.cell? ⟨ad137.block, ad137.off + 2, none⟩ = some (.string ((rd_T37 l0 0).f2)) ∧ w'.cell? ⟨ad137.block, ad137.off + 3, none⟩ = some (.slice A141_3 ((rd_T37 l0 0).f3).length c141_3) ∧ w'.cell? ⟨ad137.block, ad137.off + 4, none⟩ = some (.int .i64 ((rd_T37 l0 0).f4)) ∧ w'.cell? ⟨ad137.block, ad137.off + 5, none⟩ = some (.int .i64 ((rd_T37 l0 0).f5)) ∧ w'.cell? ⟨ad137.block, ad137.off + 6, none⟩ = some (.int .i64 ((rd_T37 l0 0).f6)) ∧ w'.cell? ⟨ad137.block, ad137.off + 7, none⟩ = some (.slice A141_7 ((rd_T37 l0 0).f7).length c141_7)) ∧ (Kd.V (Kd.int .u8) 5 w' w.heap.size (fun k_ => some k_ ≠ (s_.2 : Value).ownBlock) s_.1 y142) ∧ (Kd.R (Kd.int .u8) 5 w' w.heap.size (fun _ => True) s_.2 y145) ∧ (Below w.heap.size w w')) ?_ ?_
               rotate_left
               · intro hJ5_6
                 refine join_ (σ := Value × Value) 5 #[true, true, true, true, true, true, false, true, true, true, true, true, true, true, false, true, true, true, true, false, false, false] (fun s_ => [(22, s_.1), (30, s_.2)]) (fun s_ w' => (w'.cell? ad137 = some (.int .i64 ((rd_T37 l0 0).f0)) ∧ w'.cell? ⟨ad137.block, ad137.off + 1, none⟩ = some (.string ((rd_T37 l0 0).f1)) ∧ w'.cell? ⟨ad137.block, ad137.off + 2, none⟩ = some (.string ((rd_T37 l0 0).f2)) ∧ w'.cell? ⟨ad137.block, ad137.off + 3, none⟩ = some (.slice A141_3 ((rd_T37 l0 0).f3).length c141_3) ∧ w'.cell? ⟨ad137.block, ad137.off + 4, none⟩ = some (.int .i64 ((rd_T37 l0 0).f4)) ∧ w'.cell? ⟨ad137.block, ad137.off + 5, none⟩ = some (.int .i64 ((rd_T37 l0 0).f5)) ∧ w'.cell? ⟨ad137.block, ad137.off + 6, none⟩ = some (.int .i64 ((rd_T37 l0 0).f6)) ∧ w'.cell? ⟨ad137.block, ad137.off + 7, none⟩ = some (.slice A141_7 ((rd_T37 l0 0).f7).length c141_7)) ∧ (Kd.R (Kd.int .u8) 5 w' w.heap.size (fun k_ => some k_ ≠ (s_.2 : Value).ownBlock) (.slice Ao12 y138.length co12) y138) ∧ (Kd.V (Kd.int .u8) 5 w' w.heap.size (fun k_ => some k_ ≠ (.slice Ao12 y138.length co12 : Value).ownBlock ∧ some k_ ≠ (s_.2 : Value).ownBlock) s_.1 y142) ∧ (Kd.R (Kd.int .u8) 5 w' w.heap.size (fun k_ => some k_ ≠ (.slice Ao12 y138.length co12 : Value).ownBlock) s_.2 y148) ∧ (Below w.heap.size w w')) ?_ ?_
                 rotate_left
                 · intro hJ5_13
                   refine join_ (σ := Value × Value) 5 #[true, true, true, true, true, true, false, true, true, true, true, true, true, false, false, true, true, true, true, true, false, false] (fun s_ => [(22, s_.1), (36, s_.2)]) (fun s_ w' => (w'.cell? ad137 = some (.int .i64 ((rd_T37 l0 0).f0)) ∧ w'.cell? ⟨ad137.block, ad137.off + 1, none⟩ = some (.string ((rd_T37 l0 0).f1)) ∧ w'.cell? ⟨ad137.block, ad137.off + 2, none⟩ = some (.string ((rd_T37 l0 0).f2)) ∧ w'.cell? ⟨ad137.block, ad137.off + 3, none⟩ = some (.slice A141_3 ((rd_T37 l0 0).f3).length c141_3) ∧ w'.cell? ⟨ad137.block, ad137.off + 4, none⟩ = some (.int .i64 ((rd_T37 l0 0).f4)) ∧ w'.cell? ⟨ad137.block, ad137.off + 5, none⟩ = some (.int .i64 ((rd_T37 l0 0).f5)) ∧ w'.cell? ⟨ad137.block, ad137.off + 6, none⟩ = some (.int .i64 ((rd_T37 l0 0).f6)) ∧ w'.cell? ⟨ad137.block, ad137.off + 7, none⟩ = some (.slice A141_7 ((rd_T37 l0 0).f7).length c141_7)) ∧ (Kd.R (Kd.int .u8) 5 w' w.heap.size (fun _ => True) (.slice Ao12 y138.length co12) y138) ∧ (Kd.V (Kd.int .u8) 5 w' w.heap.size (fun k_ => some k_ ≠ (.slice Ao12 y138.length co12 : Value).ownBlock) s_.1 y142) ∧ (Kd.V (Kd.int .u8) 5 w' w.heap.size (fun k_ => some k_ ≠ (.slice Ao12 y138.length co12 : Value).ownBlock) s_.2 y154) ∧ (Below w.heap.size w w')) ?_ ?_
                   rotate_left
                   · intro hJ5_19
                     refine join_ (σ := Value × Value) 5 #[true, true, true, true, true, false, false, true, true, true, true, true, true, true, false, true, true, true, true, true, false, false] (fun s_ => [(30, s_.1), (36, s_.2)]) (fun s_ w' => (w'.cell? ad137 = some (.int .i64 ((rd_T37 l0 0).f0)) ∧ w'.cell? ⟨ad137.block, ad137.off + 1, none⟩ = some (.string ((rd_T37 l0 0).f1)) ∧ w'.cell? ⟨ad137.block, ad137.off + 2, none⟩ = some (.string ((rd_T37 l0 0).f2)) ∧ w'.cell? ⟨ad137.block, ad137.off + 3, none⟩ = some (.slice A141_3 ((rd_T37 l0 0).f3).length c141_3) ∧ w'.cell? ⟨ad137.block, ad137.off + 4, none⟩ = some (.int .i64 ((rd_T37 l0 0).f4)) ∧ w'.cell? ⟨ad137.block, ad137.off + 5, none⟩ = some (.int .i64 ((rd_T37 l0 0).f5)) ∧ w'.cell? ⟨ad137.block, ad137.off + 6, none⟩ = some (.int .i64 ((rd_T37 l0 0).f6)) ∧ w'.cell? ⟨ad137.block, ad137.off + 7, none⟩ = some (.slice A141_7 ((rd_T37 l0 0).f7).length c141_7)) ∧ (Kd.R (Kd.int .u8) 5 w' w.heap.size (fun k_ => some k_ ≠ (s_.1 : Value).ownBlock) (.slice Ao12 y138.length co12) y138) ∧ (Kd.R (Kd.int .u8) 5 w' w.heap.size (fun k_ => some k_ ≠ (.slice Ao12 y138.length co12 : Value).ownBlock) s_.1 y148) ∧ (Kd.V (Kd.int .u8) 5 w' w.heap.size (fun k_ => some k_ ≠ (.slice Ao12 y138.length co12 : Value).ownBlock ∧ some k_ ≠ (s_.1 : Value).ownBlock) s_.2 y154) ∧ (Below w.heap.size w w')) ?_ ?_
                     rotate_left
                     · intro hJ13_19
                       refine join_ (σ := Value) 6 #[true, true, true, true, true, true, false, true, true, true, true, true, true, false, false, true, true, true, true, false, false, false] (fun s_ => [(22, s_)]) (fun s_ w' => (w'.cell? ad137 = some (.int .i64 ((rd_T37 l0 0).f0)) ∧ w'.cell? ⟨ad137.block, ad137.off + 1, none⟩ = some (.string ((rd_T37 l0 0).f1)) ∧ w'.cell? ⟨ad137.block, ad137.off + 2, none⟩ = some (.string ((rd_T37 l0 0).f2)) ∧ w'.cell? ⟨ad137.block, ad137.off + 3, none⟩ = some (.slice A141_3 ((rd_T37 l0 0).f3).length c141_3) ∧ w'.cell? ⟨ad137.block, ad137.off + 4, none⟩ = some (.int .i64 ((rd_T37 l0 0).f4)) ∧ w'.cell? ⟨ad137.block, ad137.off + 5, none⟩ = some (.int .i64 ((rd_T37 l0 0).f5)) ∧ w'.cell? ⟨ad137.block, ad137.off + 6, none⟩ = some (.int .i64 ((rd_T37 l0 0).f6)) ∧ w'.cell? ⟨ad137.block, ad137.off + 7, none⟩ = some (.slice A141_7 ((rd_T37 l0 0).f7).length c141_7)) ∧ (Kd.R (Kd.int .u8) 5 w' w.heap.size (fun _ => True) (.slice Ao12 y138.length co12) y138) ∧ (Kd.V (Kd.int .u8) 5 w' w.heap.size (fun k_ => some k_ ≠ (.slice Ao12 y138.length co12 : Value).ownBlock) s_ y142) ∧ (Below w.heap.size w w')) ?_ ?_
                       rotate_left
                       · intro hJ5
                         refine join_ (σ := Value) 6 #[true, true, true, true, true, false, false, true, true, true, true, true, true, true, false, true, true, true, true, false, false, false] (fun s_ => [(30, s_)]) (fun s_ w' => (w'.cell? ad137 = some (.int .i64 ((rd_T37 l0 0).f0)) ∧ w'.cell? ⟨ad137.block, ad137.off + 1, none⟩ = some (.string ((rd_T37 l0 0).f1)) ∧ w'.cell? ⟨ad137.block, ad137.off + 2, none⟩ = some (.string ((rd_T37 l0 0).f2)) ∧ w'.cell? ⟨ad137.block, ad137.off + 3, none⟩ = some (.slice A141_3 ((rd_T37 l0 0).f3).length c141_3) ∧ w'.cell? ⟨ad137.block, ad137.off + 4, none⟩ = some (.int .i64 ((rd_T37 l0 0).f4)) ∧ w'.cell? ⟨ad137.block, ad137.off + 5, none⟩ = some (.int .i64 ((rd_T37 l0 0).f5)) ∧ w'.cell? ⟨ad137.block, ad137.off + 6, none⟩ = some (.int .i64 ((rd_T37 l0 0).f6)) ∧ w'.cell? ⟨ad137.block, ad137.off + 7, none⟩ = some (.slice A141_7 ((rd_T37 l0 0).f7).length c141_7)) ∧ (Kd.R (Kd.int .u8) 5 w' w.heap.size (fun k_ => some k_ ≠ (s_ : Value).ownBlock) (.slice Ao12 y138.length co12) y138) ∧ (Kd.R (Kd.int .u8) 5 w' w.heap.size (fun k_ => some k_ ≠ (.slice Ao12 y138.length co12 : Value).ownBlock) s_ y148) ∧ (Below w.heap.size w w')) ?_ ?_
                         rotate_left
                         · intro hJ13
                           refine join_ (σ := Value) 6 #[true, true, true, true, true, false, false, true, true, true, true, true, true, false, false, true, true, true, true, true, false, false] (fun s_ => [(36, s_)]) (fun s_ w' => (w'.cell? ad137 = some (.int .i64 ((rd_T37 l0 0).f0)) ∧ w'.cell? ⟨ad137.block, ad137.off + 1, none⟩ = some (.string ((rd_T37 l0 0).f1)) ∧ w'.cell? ⟨ad137.block, ad137.off + 2, none⟩ = some (.string ((rd_T37 l0 0).f2)) ∧ w'.cell? ⟨ad137.block, ad137.off + 3, none⟩ = some (.slice A141_3 ((rd_T37 l0 0).f3).length c141_3) ∧ w'.cell? ⟨ad137.block, ad137.off + 4, none⟩ = some (.int .i64 ((rd_T37 l0 0).f4)) ∧ w'.cell? ⟨ad137.block, ad137.off + 5, none⟩ = some (.int .i64 ((rd_T37 l0 0).f5)) ∧ w'.cell? ⟨ad137.block, ad137.off + 6, none⟩ = some (.int .i64 ((rd_T37 l0 0).f6)) ∧ w'.cell? ⟨ad137.block, ad137.off + 7, none⟩ = some (.slice A141_7 ((rd_T37 l0 0).f7).length c141_7)) ∧ (Kd.R (Kd.int .u8) 5 w' w.heap.size (fun _ => True) (.slice Ao12 y138.length co12) y138) ∧ (Kd.V (Kd.int .u8) 5 w' w.heap.size (fun k_ => some k_ ≠ (.slice Ao12 y138.length co12 : Value).ownBlock) s_ y154) ∧ (Below w.heap.size w w')) ?_ ?_
                           rotate_left
                           · intro hJ19
                             refine three_ (i := 5) (j := 13) (k := 19) (Ni := some 22) (Nj := some 30) (Nk := some 36) #[true, true, true, true, true, true, false, true, true, true, true, true, true, false, false, true, true, true, true, false, false, false] #[true, true, true, true, true, false, false, true, true, true, true, true, true, true, false, true, true, true, true, false, false, false] #[true, true, true, true, true, false, false, true, true, true, true, true, true, false, false, true, true, true, true, true, false, false] rfl rfl rfl rfl rfl rfl (three_of HT_.out (by kernel_rfl)) (by decide) (by decide) (by decide) (fun K hK => ?_) (fun K hK => ?_) (fun K hK => ?_)
                             · skip
                               refine Kd.V_conv_step _ 5 (by rfl) (N' := 22) rfl 9 24 _ rfl Try.underlying9 Try.underlying24 Try.underlying5 ((rd_T37 l0 0).f1) rfl (by have := LMc3.out; omega) (Below.refl _ _) (Nat.le_refl _) ?_
                               intro v143 w14 ho15 hb hg_ hnew_
                               clear hg_ hnew_
                               (first | rw [← Ny142.out] at ho15 | (simp only [Int.reduceToNat] at ho15; rw [← Ny142.out] at ho15))
                               have n0_ := Aside0.mk (Kd.R_below (R_up HO140.out) hb)
                               have n1_ := Aside0.mk (Kd.V_lower (Kd.V_mono (ok' := fun k_ => some k_ ≠ (.slice Ao12 y138.length co12 : Value).ownBlock) ho15 (fun k_ hk_ => (Kd.fresh' (Kd.R_lt (R_up HO140.out)) k_ hk_))) (below_size (HB_up HB.out)))
                               have n2_ := Aside0.mk (below_step (HB_up HB.out) hb)
                               clear HO140
                               clear HB
                               have HO140 := n0_
                               have HO144 := n1_
                               have HB := n2_
                               clear n0_ n1_ n2_
                               clear hb ho15
                               refine hK.out _ _ ⟨(ck_ HB.out hw141_0), (ck_ HB.out hw141_1), (ck_ HB.out hw141_2), (ck_ HB.out hw141_3), (ck_ HB.out hw141_4), (ck_ HB.out hw141_5), (ck_ HB.out hw141_6), (ck_ HB.out hw141_7)⟩ (fun hHeld => ?_)
                               clear hK K
                               refine norm_ (a' := ?_) ?_ ?_
                               rotate_left
                               · show Act.put _ (some 22) _ = _
                                 simp only [Act.put, List.setIfInBounds_toArray, List.set_cons_zero, List.set_cons_succ, i64_w, i32_w]
                                 rfl
                               exact norm_ (by first | (simp only [putAll, Act.put, List.setIfInBounds_toArray, List.set_cons_zero, List.set_cons_succ]; done) | (simp only [putAll, Act.put, List.setIfInBounds_toArray, List.set_cons_zero, List.set_cons_succ]; rfl)) (hJ5 (v143) _ ⟨hHeld, (R_up HO140.out), (V_up HO144.out), (HB_up HB.out)⟩)
                             · skip
                               refine Kd.R_lit_step (Kd.int .u8) _ 5 ?hg (N := 30) ?hd (xs := ([((((rd_T37 l0 0).f2).size : Int)) % 256] : List Int)) (inner := [.int .u8 (((((rd_T37 l0 0).f2).size : Int)) % 256)]) (ok := fun _ => True) (okp := fun _ => True) ?hr ?hp (fun _ hk => hk) trivial (Below.refl _ _) (Nat.le_refl _) (by simp) ?_; (case hd => rfl); (case hg => rfl); (case hr => first | (go_simp; done) | (go_simp; rfl)); (case hp => exact (Reps.one (show Kd.M (Kd.int .u8) _ _ _ (((((rd_T37 l0 0).f2).size : Int)) % 256) [.int .u8 (((((rd_T37 l0 0).f2).size : Int)) % 256)] from rfl) (Reps.none _ _)))
                               intro v149 w14 ho15 hb hg_ hnew_
                               clear hg_ hnew_
                               (first | rw [← Ny148.out] at ho15 | (simp only [Int.reduceToNat] at ho15; rw [← Ny148.out] at ho15))
                               have n0_ := Aside0.mk (Kd.R_elder' (R_up HO140.out) (Kd.R_base ho15) hb)
                               have n1_ := Aside0.mk (Kd.R_lower (Kd.R_new' ho15 (Kd.R_lt (R_up HO140.out))) (below_size (HB_up HB.out)))
                               have n2_ := Aside0.mk (below_step (HB_up HB.out) hb)
                               clear HO140
                               clear HB
                               have HO140 := n0_
                               have HO150 := n1_
                               have HB := n2_
                               clear n0_ n1_ n2_
                               clear hb ho15
                               refine hK.out _ _ ⟨(ck_ HB.out hw141_0), (ck_ HB.out hw141_1), (ck_ HB.out hw141_2), (ck_ HB.out hw141_3), (ck_ HB.out hw141_4), (ck_ HB.out hw141_5), (ck_ HB.out hw141_6), (ck_ HB.out hw141_7)⟩ (fun hHeld => ?_)
                               clear hK K
                               refine norm_ (a' := ?_) ?_ ?_
                               rotate_left
                               · show Act.put _ (some 30) _ = _
                                 simp only [Act.put, List.setIfInBounds_toArray, List.set_cons_zero, List.set_cons_succ, i64_w, i32_w]
                                 rfl
                               exact norm_ (by first | (simp only [putAll, Act.put, List.setIfInBounds_toArray, List.set_cons_zero, List.set_cons_succ]; done) | (simp only [putAll, Act.put, List.setIfInBounds_toArray, List.set_cons_zero, List.set_cons_succ]; rfl)) (hJ13 (v149) _ ⟨hHeld, (by (with_reducible repeat (first | apply Kd.R_alloc | apply Kd.R_drewN | apply Kd.R_drew)); exact Kd.R_mono HO140.out (fun _ hk => hk.2)), (by (with_reducible repeat (first | apply Kd.R_alloc | apply Kd.R_drewN | apply Kd.R_drew)); exact Kd.R_mono HO150.out (fun _ hk => hk.2)), (HB_up HB.out)⟩)
                             · skip
                               refine Kd.V_conv_step _ 5 (by rfl) (N' := 36) rfl 9 24 _ rfl Try.underlying9 Try.underlying24 Try.underlying5 ((rd_T37 l0 0).f2) rfl (by have := LMc6.out; omega) (Below.refl _ _) (Nat.le_refl _) ?_
                               intro v155 w14 ho15 hb hg_ hnew_
                               clear hg_ hnew_
                               (first | rw [← Ny154.out] at ho15 | (simp only [Int.reduceToNat] at ho15; rw [← Ny154.out] at ho15))
                               have n0_ := Aside0.mk (Kd.R_below (R_up HO140.out) hb)
                               have n1_ := Aside0.mk (Kd.V_lower (Kd.V_mono (ok' := fun k_ => some k_ ≠ (.slice Ao12 y138.length co12 : Value).ownBlock) ho15 (fun k_ hk_ => (Kd.fresh' (Kd.R_lt (R_up HO140.out)) k_ hk_))) (below_size (HB_up HB.out)))
                               have n2_ := Aside0.mk (below_step (HB_up HB.out) hb)
                               clear HO140
                               clear HB
                               have HO140 := n0_
                               have HO156 := n1_
                               have HB := n2_
                               clear n0_ n1_ n2_
                               clear hb ho15
                               refine hK.out _ _ ⟨(ck_ HB.out hw141_0), (ck_ HB.out hw141_1), (ck_ HB.out hw141_2), (ck_ HB.out hw141_3), (ck_ HB.out hw141_4), (ck_ HB.out hw141_5), (ck_ HB.out hw141_6), (ck_ HB.out hw141_7)⟩ (fun hHeld => ?_)
                               clear hK K
                               refine norm_ (a' := ?_) ?_ ?_
                               rotate_left
                               · show Act.put _ (some 36) _ = _
                                 simp only [Act.put, List.setIfInBounds_toArray, List.set_cons_zero, List.set_cons_succ, i64_w, i32_w]
                                 rfl
                               exact norm_ (by first | (simp only [putAll, Act.put, List.setIfInBounds_toArray, List.set_cons_zero, List.set_cons_succ]; done) | (simp only [putAll, Act.put, List.setIfInBounds_toArray, List.set_cons_zero, List.set_cons_succ]; rfl)) (hJ19 (v155) _ ⟨hHeld, (R_up HO140.out), (V_up HO156.out), (HB_up HB.out)⟩)
                           · skip
                             rintro v155 w16 ⟨hS_, h0_, h1_, h2_⟩
                             have n0_ : Aside0 (Kd.R (Kd.int .u8) 5 w16 w.heap.size (fun _ => True) (.slice Ao12 y138.length co12) y138) := ⟨h0_⟩
                             have n1_ : Aside0 (Kd.V (Kd.int .u8) 5 w16 w.heap.size (fun k_ => some k_ ≠ (.slice Ao12 y138.length co12 : Value).ownBlock) v155 y154) := ⟨h1_⟩
                             have n2_ : Aside0 (Below w.heap.size w w16) := ⟨h2_⟩
                             clear HO140
                             clear HB
                             clear h0_ h1_ h2_
                             have HO140 := n0_
                             have HO156 := n1_
                             have HB := n2_
                             clear n0_ n1_ n2_
                             have hHeld : w16.cell? ad137 = some (.int .i64 ((rd_T37 l0 0).f0)) ∧ w16.cell? ⟨ad137.block, ad137.off + 1, none⟩ = some (.string ((rd_T37 l0 0).f1)) ∧ w16.cell? ⟨ad137.block, ad137.off + 2, none⟩ = some (.string ((rd_T37 l0 0).f2)) ∧ w16.cell? ⟨ad137.block, ad137.off + 3, none⟩ = some (.slice A141_3 ((rd_T37 l0 0).f3).length c141_3) ∧ w16.cell? ⟨ad137.block, ad137.off + 4, none⟩ = some (.int .i64 ((rd_T37 l0 0).f4)) ∧ w16.cell? ⟨ad137.block, ad137.off + 5, none⟩ = some (.int .i64 ((rd_T37 l0 0).f5)) ∧ w16.cell? ⟨ad137.block, ad137.off + 6, none⟩ = some (.int .i64 ((rd_T37 l0 0).f6)) ∧ w16.cell? ⟨ad137.block, ad137.off + 7, none⟩ = some (.slice A141_7 ((rd_T37 l0 0).f7).length c141_7) := hS_
                             refine norm_ (a' := ?_) ?_ ?_
                             rotate_left
                             · simp only [putAll, Act.put, List.setIfInBounds_toArray, List.set_cons_zero, List.set_cons_succ]
                               rfl
                             refine two_ (i := 5) (j := 13) (Ni := some 22) (Nj := some 30) #[true, true, true, true, true, true, false, true, true, true, true, true, true, false, false, true, true, true, true, true, false, false] #[true, true, true, true, true, false, false, true, true, true, true, true, true, true, false, true, true, true, true, true, false, false] rfl rfl rfl rfl (two_of HT_.out (by kernel_rfl)) (by decide) (by decide) (fun K hK => ?_) (fun K hK => ?_)
                             · skip
                               refine Kd.V_conv_step _ 5 (by rfl) (N' := 22) rfl 9 24 _ rfl Try.underlying9 Try.underlying24 Try.underlying5 ((rd_T37 l0 0).f1) rfl (by have := LMc3.out; omega) (Below.refl _ _) (Nat.le_refl _) ?_
                               intro v143 w17 ho18 hb hg_ hnew_
                               clear hg_ hnew_
                               (first | rw [← Ny142.out] at ho18 | (simp only [Int.reduceToNat] at ho18; rw [← Ny142.out] at ho18))
                               have n0_ := Aside0.mk (Kd.R_below (R_up HO140.out) hb)
                               have n1_ := Aside0.mk (Kd.V_below (V_up HO156.out) hb)
                               have n2_ := Aside0.mk (Kd.V_lower (Kd.V_mono (ok' := fun k_ => some k_ ≠ (.slice Ao12 y138.length co12 : Value).ownBlock) ho18 (fun k_ hk_ => (Kd.fresh' (Kd.R_lt (R_up HO140.out)) k_ hk_))) (below_size (HB_up HB.out)))
                               have n3_ := Aside0.mk (below_step (HB_up HB.out) hb)
                               clear HO140
                               clear HO156
                               clear HB
                               have HO140 := n0_
                               have HO156 := n1_
                               have HO144 := n2_
                               have HB := n3_
                               clear n0_ n1_ n2_ n3_
                               clear hb ho18
                               refine hK.out _ _ ⟨(ck_ HB.out hw141_0), (ck_ HB.out hw141_1), (ck_ HB.out hw141_2), (ck_ HB.out hw141_3), (ck_ HB.out hw141_4), (ck_ HB.out hw141_5), (ck_ HB.out hw141_6), (ck_ HB.out hw141_7)⟩ (fun hHeld => ?_)
                               clear hK K
                               refine norm_ (a' := ?_) ?_ ?_
                               rotate_left
                               · show Act.put _ (some 22) _ = _
                                 simp only [Act.put, List.setIfInBounds_toArray, List.set_cons_zero, List.set_cons_succ, i64_w, i32_w]
                                 rfl
                               exact norm_ (by first | (simp only [putAll, Act.put, List.setIfInBounds_toArray, List.set_cons_zero, List.set_cons_succ]; done) | (simp only [putAll, Act.put, List.setIfInBounds_toArray, List.set_cons_zero, List.set_cons_succ]; rfl)) (hJ5_19 (v143, v155) _ ⟨hHeld, (R_up HO140.out), (V_up HO144.out), (V_up HO156.out), (HB_up HB.out)⟩)
                             · skip
                               refine Kd.R_lit_step (Kd.int .u8) _ 5 ?hg (N := 30) ?hd (xs := ([((((rd_T37 l0 0).f2).size : Int)) % 256] : List Int)) (inner := [.int .u8 (((((rd_T37 l0 0).f2).size : Int)) % 256)]) (ok := fun _ => True) (okp := fun _ => True) ?hr ?hp (fun _ hk => hk) trivial (Below.refl _ _) (Nat.le_refl _) (by simp) ?_; (case hd => rfl); (case hg => rfl); (case hr => first | (go_simp; done) | (go_simp; rfl)); (case hp => exact (Reps.one (show Kd.M (Kd.int .u8) _ _ _ (((((rd_T37 l0 0).f2).size : Int)) % 256) [.int .u8 (((((rd_T37 l0 0).f2).size : Int)) % 256)] from rfl) (Reps.none _ _)))
                               intro v149 w17 ho18 hb hg_ hnew_
                               clear hg_ hnew_
                               (first | rw [← Ny148.out] at ho18 | (simp only [Int.reduceToNat] at ho18; rw [← Ny148.out] at ho18))
                               have n0_ := Aside0.mk (Kd.R_elder' (R_up HO140.out) (Kd.R_base ho18) hb)
                               have n1_ := Aside0.mk (Kd.V_elder' (V_up HO156.out) (Kd.R_base ho18) hb)
                               have n2_ := Aside0.mk (Kd.R_lower (Kd.R_new' ho18 (Kd.R_lt (R_up HO140.out))) (below_size (HB_up HB.out)))
                               have n3_ := Aside0.mk (below_step (HB_up HB.out) hb)
                               clear HO140
                               clear HO156
                               clear HB
                               have HO140 := n0_
                               have HO156 := n1_
                               have HO150 := n2_
                               have HB := n3_
                               clear n0_ n1_ n2_ n3_
                               clear hb ho18
                               refine hK.out _ _ ⟨(ck_ HB.out hw141_0), (ck_ HB.out hw141_1), (ck_ HB.out hw141_2), (ck_ HB.out hw141_3), (ck_ HB.out hw141_4), (ck_ HB.out hw141_5), (ck_ HB.out hw141_6), (ck_ HB.out hw141_7)⟩ (fun hHeld => ?_)
                               clear hK K
                               refine norm_ (a' := ?_) ?_ ?_
                               rotate_left
                               · show Act.put _ (some 30) _ = _
                                 simp only [Act.put, List.setIfInBounds_toArray, List.set_cons_zero, List.set_cons_succ, i64_w, i32_w]
                                 rfl
                               exact norm_ (by first | (simp only [putAll, Act.put, List.setIfInBounds_toArray, List.set_cons_zero, List.set_cons_succ]; done) | (simp only [putAll, Act.put, List.setIfInBounds_toArray, List.set_cons_zero, List.set_cons_succ]; rfl)) (hJ13_19 (v149, v155) _ ⟨hHeld, (by (with_reducible repeat (first | apply Kd.R_alloc | apply Kd.R_drewN | apply Kd.R_drew)); exact Kd.R_mono HO140.out (fun _ hk => hk.2)), (by (with_reducible repeat (first | apply Kd.R_alloc | apply Kd.R_drewN | apply Kd.R_drew)); exact Kd.R_mono HO150.out (fun _ hk => hk.2)), (V_up HO156.out), (HB_up HB.out)⟩)
                         · skip
                           rintro v149 w16 ⟨hS_, h0_, h1_, h2_⟩
                           have n0_ : Aside0 (Kd.R (Kd.int .u8) 5 w16 w.heap.size (fun k_ => some k_ ≠ (v149 : Value).ownBlock) (.slice Ao12 y138.length co12) y138) := ⟨h0_⟩
                           have n1_ : Aside0 (Kd.R (Kd.int .u8) 5 w16 w.heap.size (fun k_ => some k_ ≠ (.slice Ao12 y138.length co12 : Value).ownBlock) v149 y148) := ⟨h1_⟩
                           have n2_ : Aside0 (Below w.heap.size w w16) := ⟨h2_⟩
                           clear HO140
                           clear HB
                           clear h0_ h1_ h2_
                           have HO140 := n0_
                           have HO150 := n1_
                           have HB := n2_
                           clear n0_ n1_ n2_
                           have hHeld : w16.cell? ad137 = some (.int .i64 ((rd_T37 l0 0).f0)) ∧ w16.cell? ⟨ad137.block, ad137.off + 1, none⟩ = some (.string ((rd_T37 l0 0).f1)) ∧ w16.cell? ⟨ad137.block, ad137.off + 2, none⟩ = some (.string ((rd_T37 l0 0).f2)) ∧ w16.cell? ⟨ad137.block, ad137.off + 3, none⟩ = some (.slice A141_3 ((rd_T37 l0 0).f3).length c141_3) ∧ w16.cell? ⟨ad137.block, ad137.off + 4, none⟩ = some (.int .i64 ((rd_T37 l0 0).f4)) ∧ w16.cell? ⟨ad137.block, ad137.off + 5, none⟩ = some (.int .i64 ((rd_T37 l0 0).f5)) ∧ w16.cell? ⟨ad137.block, ad137.off + 6, none⟩ = some (.int .i64 ((rd_T37 l0 0).f6)) ∧ w16.cell? ⟨ad137.block, ad137.off + 7, none⟩ = some (.slice A141_7 ((rd_T37 l0 0).f7).length c141_7) := hS_
                           refine norm_ (a' := ?_) ?_ ?_
                           rotate_left
                           · simp only [putAll, Act.put, List.setIfInBounds_toArray, List.set_cons_zero, List.set_cons_succ]
                             rfl
                           refine two_ (i := 5) (j := 19) (Ni := some 22) (Nj := some 36) #[true, true, true, true, true, true, false, true, true, true, true, true, true, true, false, true, true, true, true, false, false, false] #[true, true, true, true, true, false, false, true, true, true, true, true, true, true, false, true, true, true, true, true, false, false] rfl rfl rfl rfl (two_of HT_.out (by kernel_rfl)) (by decide) (by decide) (fun K hK => ?_) (fun K hK => ?_)
                           · skip
                             refine Kd.V_conv_step _ 5 (by rfl) (N' := 22) rfl 9 24 _ rfl Try.underlying9 Try.underlying24 Try.underlying5 ((rd_T37 l0 0).f1) rfl (by have := LMc3.out; omega) (Below.refl _ _) (Nat.le_refl _) ?_
                             intro v143 w17 ho18 hb hg_ hnew_
                             clear hg_ hnew_
                             (first | rw [← Ny142.out] at ho18 | (simp only [Int.reduceToNat] at ho18; rw [← Ny142.out] at ho18))
                             have n0_ := Aside0.mk (Kd.R_below (R_up HO140.out) hb)
                             have n1_ := Aside0.mk (Kd.R_below (R_up HO150.out) hb)
                             have n2_ := Aside0.mk (Kd.V_lower (Kd.V_mono (ok' := fun k_ => some k_ ≠ (.slice Ao12 y138.length co12 : Value).ownBlock ∧ some k_ ≠ (v149 : Value).ownBlock) ho18 (fun k_ hk_ => ⟨(Kd.fresh' (Kd.R_lt (R_up HO140.out)) k_ hk_), (Kd.fresh' (Kd.R_lt (R_up HO150.out)) k_ hk_)⟩)) (below_size (HB_up HB.out)))
                             have n3_ := Aside0.mk (below_step (HB_up HB.out) hb)
                             clear HO140
                             clear HO150
                             clear HB
                             have HO140 := n0_
                             have HO150 := n1_
                             have HO144 := n2_
                             have HB := n3_
                             clear n0_ n1_ n2_ n3_
                             clear hb ho18
                             refine hK.out _ _ ⟨(ck_ HB.out hw141_0), (ck_ HB.out hw141_1), (ck_ HB.out hw141_2), (ck_ HB.out hw141_3), (ck_ HB.out hw141_4), (ck_ HB.out hw141_5), (ck_ HB.out hw141_6), (ck_ HB.out hw141_7)⟩ (fun hHeld => ?_)
                             clear hK K
                             refine norm_ (a' := ?_) ?_ ?_
                             rotate_left
                             · show Act.put _ (some 22) _ = _
                               simp only [Act.put, List.setIfInBounds_toArray, List.set_cons_zero, List.set_cons_succ, i64_w, i32_w]
                               rfl
                             exact norm_ (by first | (simp only [putAll, Act.put, List.setIfInBounds_toArray, List.set_cons_zero, List.set_cons_succ]; done) | (simp only [putAll, Act.put, List.setIfInBounds_toArray, List.set_cons_zero, List.set_cons_succ]; rfl)) (hJ5_13 (v143, v149) _ ⟨hHeld, (R_up HO140.out), (V_up HO144.out), (R_up HO150.out), (HB_up HB.out)⟩)
                           · skip
                             refine Kd.V_conv_step _ 5 (by rfl) (N' := 36) rfl 9 24 _ rfl Try.underlying9 Try.underlying24 Try.underlying5 ((rd_T37 l0 0).f2) rfl (by have := LMc6.out; omega) (Below.refl _ _) (Nat.le_refl _) ?_
                             intro v155 w17 ho18 hb hg_ hnew_
                             clear hg_ hnew_
                             (first | rw [← Ny154.out] at ho18 | (simp only [Int.reduceToNat] at ho18; rw [← Ny154.out] at ho18))
                             have n0_ := Aside0.mk (Kd.R_below (R_up HO140.out) hb)
                             have n1_ := Aside0.mk (Kd.R_below (R_up HO150.out) hb)
                             have n2_ := Aside0.mk (Kd.V_lower (Kd.V_mono (ok' := fun k_ => some k_ ≠ (.slice Ao12 y138.length co12 : Value).ownBlock ∧ some k_ ≠ (v149 : Value).ownBlock) ho18 (fun k_ hk_ => ⟨(Kd.fresh' (Kd.R_lt (R_up HO140.out)) k_ hk_), (Kd.fresh' (Kd.R_lt (R_up HO150.out)) k_ hk_)⟩)) (below_size (HB_up HB.out)))
                             have n3_ := Aside0.mk (below_step (HB_up HB.out) hb)
                             clear HO140
                             clear HO150
                             clear HB
                             have HO140 := n0_
                             have HO150 := n1_
                             have HO156 := n2_
                             have HB := n3_
                             clear n0_ n1_ n2_ n3_
                             clear hb ho18
                             refine hK.out _ _ ⟨(ck_ HB.out hw141_0), (ck_ HB.out hw141_1), (ck_ HB.out hw141_2), (ck_ HB.out hw141_3), (ck_ HB.out hw141_4), (ck_ HB.out hw141_5), (ck_ HB.out hw141_6), (ck_ HB.out hw141_7)⟩ (fun hHeld => ?_)
                             clear hK K
                             refine norm_ (a' := ?_) ?_ ?_
                             rotate_left
                             · show Act.put _ (some 36) _ = _
                               simp only [Act.put, List.setIfInBounds_toArray, List.set_cons_zero, List.set_cons_succ, i64_w, i32_w]
                               rfl
                             exact norm_ (by first | (simp only [putAll, Act.put, List.setIfInBounds_toArray, List.set_cons_zero, List.set_cons_succ]; done) | (simp only [putAll, Act.put, List.setIfInBounds_toArray, List.set_cons_zero, List.set_cons_succ]; rfl)) (hJ13_19 (v149, v155) _ ⟨hHeld, (R_up HO140.out), (R_up HO150.out), (V_up HO156.out), (HB_up HB.out)⟩)
                       · skip
                         rintro v143 w16 ⟨hS_, h0_, h1_, h2_⟩
                         have n0_ : Aside0 (Kd.R (Kd.int .u8) 5 w16 w.heap.size (fun _ => True) (.slice Ao12 y138.length co12) y138) := ⟨h0_⟩
                         have n1_ : Aside0 (Kd.V (Kd.int .u8) 5 w16 w.heap.size (fun k_ => some k_ ≠ (.slice Ao12 y138.length co12 : Value).ownBlock) v143 y142) := ⟨h1_⟩
                         have n2_ : Aside0 (Below w.heap.size w w16) := ⟨h2_⟩
                         clear HO140
                         clear HB
                         clear h0_ h1_ h2_
                         have HO140 := n0_
                         have HO144 := n1_
                         have HB := n2_
                         clear n0_ n1_ n2_
                         have hHeld : w16.cell? ad137 = some (.int .i64 ((rd_T37 l0 0).f0)) ∧ w16.cell? ⟨ad137.block, ad137.off + 1, none⟩ = some (.string ((rd_T37 l0 0).f1)) ∧ w16.cell? ⟨ad137.block, ad137.off + 2, none⟩ = some (.string ((rd_T37 l0 0).f2)) ∧ w16.cell? ⟨ad137.block, ad137.off + 3, none⟩ = some (.slice A141_3 ((rd_T37 l0 0).f3).length c141_3) ∧ w16.cell? ⟨ad137.block, ad137.off + 4, none⟩ = some (.int .i64 ((rd_T37 l0 0).f4)) ∧ w16.cell? ⟨ad137.block, ad137.off + 5, none⟩ = some (.int .i64 ((rd_T37 l0 0).f5)) ∧ w16.cell? ⟨ad137.block, ad137.off + 6, none⟩ = some (.int .i64 ((rd_T37 l0 0).f6)) ∧ w16.cell? ⟨ad137.block, ad137.off + 7, none⟩ = some (.slice A141_7 ((rd_T37 l0 0).f7).length c141_7) := hS_
                         refine norm_ (a' := ?_) ?_ ?_
                         rotate_left
                         · simp only [putAll, Act.put, List.setIfInBounds_toArray, List.set_cons_zero, List.set_cons_succ]
                           rfl
                         refine three_ (i := 6) (j := 13) (k := 19) (Ni := some 23) (Nj := some 30) (Nk := some 36) #[true, true, true, true, true, true, true, true, true, true, true, true, true, false, false, true, true, true, true, false, false, false] #[true, true, true, true, true, true, false, true, true, true, true, true, true, true, false, true, true, true, true, false, false, false] #[true, true, true, true, true, true, false, true, true, true, true, true, true, false, false, true, true, true, true, true, false, false] rfl rfl rfl rfl rfl rfl (three_of HT_.out (by kernel_rfl)) (by decide) (by decide) (by decide) (fun K hK => ?_) (fun K hK => ?_) (fun K hK => ?_)
                         · skip
                           obtain ⟨Ao18, co18, eo18⟩ := Kd.V_slice HO144.out
                           (first | subst eo18 | (injection eo18 with f1_ f2_ f3_; have f4_ := f1_.symm; have f5_ := f3_.symm; clear f1_ f2_ f3_; subst f4_; subst f5_))
                           refine Kd.R_append_rows_step (Kd.int .u8) (w0 := w) w.heap.size (by rfl) (.tmp 17) (.tmp 22) 24 5 (.int .u8 0) 1 rfl Try.underlying24 info5 rfl (by decide) (by omega) (.slice Ao12 y138.length co12) y138 y142 _ _ _ (fun _ => True) (fun _ => False) rfl rfl ?aO ?aR (fun _ _ h => h) (fun _ h => h.elim) ?aF ?aB ?aS ?aL ?_
                           (case aR => exact C_up (Kd.V_reads' HO144.out).2.2)
                           (case aB => exact (HB_up HB.out))
                           (case aF => exact (fun _ _ => trivial))
                           (case aO => exact (R_up HO140.out))
                           (case aS => exact (below_size (HB_up HB.out)))
                           (case aL => have := LMc4.out; omega)
                           intro v146 w17 ho hb hg hat
                           rw [← Ny145.out] at ho
                           have n0_ := Aside0.mk (Kd.V_afterv (ok := (fun _ => True)) (by (with_reducible repeat (first | apply Kd.V_alloc | apply Kd.V_drewN | apply Kd.V_drew)); exact Kd.V_mono HO144.out (fun _ hk => ⟨trivial, hk⟩)) hg hat)
                           have n1_ := Aside0.mk (hb)
                           have n2_ := Aside0.mk (ho)
                           clear HO144
                           clear HB
                           clear HO140
                           have HO144 := n0_
                           have HB := n1_
                           have HO147 := n2_
                           clear n0_ n1_ n2_
                           clear ho hb hg hat
                           refine hK.out _ _ ⟨(ck_ HB.out hw141_0), (ck_ HB.out hw141_1), (ck_ HB.out hw141_2), (ck_ HB.out hw141_3), (ck_ HB.out hw141_4), (ck_ HB.out hw141_5), (ck_ HB.out hw141_6), (ck_ HB.out hw141_7)⟩ (fun hHeld => ?_)
                           clear hK K
                           refine norm_ (a' := ?_) ?_ ?_
                           rotate_left
                           · show Act.put _ (some 23) _ = _
                             simp only [Act.put, List.setIfInBounds_toArray, List.set_cons_zero, List.set_cons_succ, i64_w, i32_w]
                             rfl
                           exact norm_ (by first | (simp only [putAll, Act.put, List.setIfInBounds_toArray, List.set_cons_zero, List.set_cons_succ]; done) | (simp only [putAll, Act.put, List.setIfInBounds_toArray, List.set_cons_zero, List.set_cons_succ]; rfl)) (hJ5_6 (.slice Ao18 y142.length co18, v146) _ ⟨hHeld, (by (with_reducible repeat (first | apply Kd.V_alloc | apply Kd.V_drewN | apply Kd.V_drew)); exact Kd.V_mono HO144.out (fun _ hk => hk.2)), (R_up HO147.out), (HB_up HB.out)⟩)
                         · skip
                           refine Kd.R_lit_step (Kd.int .u8) _ 5 ?hg (N := 30) ?hd (xs := ([((((rd_T37 l0 0).f2).size : Int)) % 256] : List Int)) (inner := [.int .u8 (((((rd_T37 l0 0).f2).size : Int)) % 256)]) (ok := fun _ => True) (okp := fun _ => True) ?hr ?hp (fun _ hk => hk) trivial (Below.refl _ _) (Nat.le_refl _) (by simp) ?_; (case hd => rfl); (case hg => rfl); (case hr => first | (go_simp; done) | (go_simp; rfl)); (case hp => exact (Reps.one (show Kd.M (Kd.int .u8) _ _ _ (((((rd_T37 l0 0).f2).size : Int)) % 256) [.int .u8 (((((rd_T37 l0 0).f2).size : Int)) % 256)] from rfl) (Reps.none _ _)))
                           intro v149 w17 ho18 hb hg_ hnew_
                           clear hg_ hnew_
                           (first | rw [← Ny148.out] at ho18 | (simp only [Int.reduceToNat] at ho18; rw [← Ny148.out] at ho18))
                           have n0_ := Aside0.mk (Kd.R_elder' (R_up HO140.out) (Kd.R_base ho18) hb)
                           have n1_ := Aside0.mk (Kd.V_elder' (V_up HO144.out) (Kd.R_base ho18) hb)
                           have n2_ := Aside0.mk (Kd.R_lower (Kd.R_new' ho18 (Kd.R_lt (R_up HO140.out))) (below_size (HB_up HB.out)))
                           have n3_ := Aside0.mk (below_step (HB_up HB.out) hb)
                           clear HO140
                           clear HO144
                           clear HB
                           have HO140 := n0_
                           have HO144 := n1_
                           have HO150 := n2_
                           have HB := n3_
                           clear n0_ n1_ n2_ n3_
                           clear hb ho18
                           refine hK.out _ _ ⟨(ck_ HB.out hw141_0), (ck_ HB.out hw141_1), (ck_ HB.out hw141_2), (ck_ HB.out hw141_3), (ck_ HB.out hw141_4), (ck_ HB.out hw141_5), (ck_ HB.out hw141_6), (ck_ HB.out hw141_7)⟩ (fun hHeld => ?_)
                           clear hK K
                           refine norm_ (a' := ?_) ?_ ?_
                           rotate_left
                           · show Act.put _ (some 30) _ = _
                             simp only [Act.put, List.setIfInBounds_toArray, List.set_cons_zero, List.set_cons_succ, i64_w, i32_w]
                             rfl
                           exact norm_ (by first | (simp only [putAll, Act.put, List.setIfInBounds_toArray, List.set_cons_zero, List.set_cons_succ]; done) | (simp only [putAll, Act.put, List.setIfInBounds_toArray, List.set_cons_zero, List.set_cons_succ]; rfl)) (hJ5_13 (v143, v149) _ ⟨hHeld, (by (with_reducible repeat (first | apply Kd.R_alloc | apply Kd.R_drewN | apply Kd.R_drew)); exact Kd.R_mono HO140.out (fun _ hk => hk.2)), (V_up HO144.out), (by (with_reducible repeat (first | apply Kd.R_alloc | apply Kd.R_drewN | apply Kd.R_drew)); exact Kd.R_mono HO150.out (fun _ hk => hk.2)), (HB_up HB.out)⟩)
                         · skip
                           refine Kd.V_conv_step _ 5 (by rfl) (N' := 36) rfl 9 24 _ rfl Try.underlying9 Try.underlying24 Try.underlying5 ((rd_T37 l0 0).f2) rfl (by have := LMc6.out; omega) (Below.refl _ _) (Nat.le_refl _) ?_
                           intro v155 w17 ho18 hb hg_ hnew_
                           clear hg_ hnew_
                           (first | rw [← Ny154.out] at ho18 | (simp only [Int.reduceToNat] at ho18; rw [← Ny154.out] at ho18))
                           have n0_ := Aside0.mk (Kd.R_below (R_up HO140.out) hb)
                           have n1_ := Aside0.mk (Kd.V_below (V_up HO144.out) hb)
                           have n2_ := Aside0.mk (Kd.V_lower (Kd.V_mono (ok' := fun k_ => some k_ ≠ (.slice Ao12 y138.length co12 : Value).ownBlock) ho18 (fun k_ hk_ => (Kd.fresh' (Kd.R_lt (R_up HO140.out)) k_ hk_))) (below_size (HB_up HB.out)))
                           have n3_ := Aside0.mk (below_step (HB_up HB.out) hb)
                           clear HO140
                           clear HO144
                           clear HB
                           have HO140 := n0_
                           have HO144 := n1_
                           have HO156 := n2_
                           have HB := n3_
                           clear n0_ n1_ n2_ n3_
                           clear hb ho18
                           refine hK.out _ _ ⟨(ck_ HB.out hw141_0), (ck_ HB.out hw141_1), (ck_ HB.out hw141_2), (ck_ HB.out hw141_3), (ck_ HB.out hw141_4), (ck_ HB.out hw141_5), (ck_ HB.out hw141_6), (ck_ HB.out hw141_7)⟩ (fun hHeld => ?_)
                           clear hK K
                           refine norm_ (a' := ?_) ?_ ?_
                           rotate_left
                           · show Act.put _ (some 36) _ = _
                             simp only [Act.put, List.setIfInBounds_toArray, List.set_cons_zero, List.set_cons_succ, i64_w, i32_w]
                             rfl
                           exact norm_ (by first | (simp only [putAll, Act.put, List.setIfInBounds_toArray, List.set_cons_zero, List.set_cons_succ]; done) | (simp only [putAll, Act.put, List.setIfInBounds_toArray, List.set_cons_zero, List.set_cons_succ]; rfl)) (hJ5_19 (v143, v155) _ ⟨hHeld, (R_up HO140.out), (V_up HO144.out), (V_up HO156.out), (HB_up HB.out)⟩)
                     · skip
                       rintro ⟨v149, v155⟩ w18 ⟨hS_, h0_, h1_, h2_, h3_⟩
                       have n0_ : Aside0 (Kd.R (Kd.int .u8) 5 w18 w.heap.size (fun k_ => some k_ ≠ (v149 : Value).ownBlock) (.slice Ao12 y138.length co12) y138) := ⟨h0_⟩
                       have n1_ : Aside0 (Kd.R (Kd.int .u8) 5 w18 w.heap.size (fun k_ => some k_ ≠ (.slice Ao12 y138.length co12 : Value).ownBlock) v149 y148) := ⟨h1_⟩
                       have n2_ : Aside0 (Kd.V (Kd.int .u8) 5 w18 w.heap.size (fun k_ => some k_ ≠ (.slice Ao12 y138.length co12 : Value).ownBlock ∧ some k_ ≠ (v149 : Value).ownBlock) v155 y154) := ⟨h2_⟩
                       have n3_ : Aside0 (Below w.heap.size w w18) := ⟨h3_⟩
                       clear HO140
                       clear HB
                       clear h0_ h1_ h2_ h3_
                       have HO140 := n0_
                       have HO150 := n1_
                       have HO156 := n2_
                       have HB := n3_
                       clear n0_ n1_ n2_ n3_
                       have hHeld : w18.cell? ad137 = some (.int .i64 ((rd_T37 l0 0).f0)) ∧ w18.cell? ⟨ad137.block, ad137.off + 1, none⟩ = some (.string ((rd_T37 l0 0).f1)) ∧ w18.cell? ⟨ad137.block, ad137.off + 2, none⟩ = some (.string ((rd_T37 l0 0).f2)) ∧ w18.cell? ⟨ad137.block, ad137.off + 3, none⟩ = some (.slice A141_3 ((rd_T37 l0 0).f3).length c141_3) ∧ w18.cell? ⟨ad137.block, ad137.off + 4, none⟩ = some (.int .i64 ((rd_T37 l0 0).f4)) ∧ w18.cell? ⟨ad137.block, ad137.off + 5, none⟩ = some (.int .i64 ((rd_T37 l0 0).f5)) ∧ w18.cell? ⟨ad137.block, ad137.off + 6, none⟩ = some (.int .i64 ((rd_T37 l0 0).f6)) ∧ w18.cell? ⟨ad137.block, ad137.off + 7, none⟩ = some (.slice A141_7 ((rd_T37 l0 0).f7).length c141_7) := hS_
                       refine norm_ (a' := ?_) ?_ ?_
                       rotate_left
                       · simp only [putAll, Act.put, List.setIfInBounds_toArray, List.set_cons_zero, List.set_cons_succ]
                         rfl
                       refine one_ (i := 5) (N := some 22) #[true, true, true, true, true, true, false, true, true, true, true, true, true, true, false, true, true, true, true, true, false, false] rfl rfl (one_of HT_.out (by kernel_rfl)) (by decide) (fun K hK => ?_)
                       refine Kd.V_conv_step _ 5 (by rfl) (N' := 22) rfl 9 24 _ rfl Try.underlying9 Try.underlying24 Try.underlying5 ((rd_T37 l0 0).f1) rfl (by have := LMc3.out; omega) (Below.refl _ _) (Nat.le_refl _) ?_
                       intro v143 w19 ho20 hb hg_ hnew_
                       clear hg_ hnew_
                       (first | rw [← Ny142.out] at ho20 | (simp only [Int.reduceToNat] at ho20; rw [← Ny142.out] at ho20))
                       have n0_ := Aside0.mk (Kd.R_below (R_up HO140.out) hb)
                       have n1_ := Aside0.mk (Kd.R_below (R_up HO150.out) hb)
                       have n2_ := Aside0.mk (Kd.V_below (V_up HO156.out) hb)
                       have n3_ := Aside0.mk (Kd.V_lower (Kd.V_mono (ok' := fun k_ => some k_ ≠ (.slice Ao12 y138.length co12 : Value).ownBlock ∧ some k_ ≠ (v149 : Value).ownBlock) ho20 (fun k_ hk_ => ⟨(Kd.fresh' (Kd.R_lt (R_up HO140.out)) k_ hk_), (Kd.fresh' (Kd.R_lt (R_up HO150.out)) k_ hk_)⟩)) (below_size (HB_up HB.out)))
                       have n4_ := Aside0.mk (below_step (HB_up HB.out) hb)
                       clear HO140
                       clear HO150
                       clear HO156
                       clear HB
                       have HO140 := n0_
                       have HO150 := n1_
                       have HO156 := n2_
                       have HO144 := n3_
                       have HB := n4_
                       clear n0_ n1_ n2_ n3_ n4_
                       clear hb ho20
                       refine hK.out _ _ ⟨(ck_ HB.out hw141_0), (ck_ HB.out hw141_1), (ck_ HB.out hw141_2), (ck_ HB.out hw141_3), (ck_ HB.out hw141_4), (ck_ HB.out hw141_5), (ck_ HB.out hw141_6), (ck_ HB.out hw141_7)⟩ (fun hHeld => ?_)
                       clear hK K
                       refine norm_ (a' := ?_) ?_ ?_
                       rotate_left
                       · show Act.put _ (some 22) _ = _
                         simp only [Act.put, List.setIfInBounds_toArray, List.set_cons_zero, List.set_cons_succ, i64_w, i32_w]
                         rfl
                       exact norm_ (by first | (simp only [putAll, Act.put, List.setIfInBounds_toArray, List.set_cons_zero, List.set_cons_succ]; done) | (simp only [putAll, Act.put, List.setIfInBounds_toArray, List.set_cons_zero, List.set_cons_succ]; rfl)) (hJ5_13_19 (v143, v149, v155) _ ⟨hHeld, (R_up HO140.out), (V_up HO144.out), (R_up HO150.out), (V_up HO156.out), (HB_up HB.out)⟩)
                   · skip
                     rintro ⟨v143, v155⟩ w18 ⟨hS_, h0_, h1_, h2_, h3_⟩
                     have n0_ : Aside0 (Kd.R (Kd.int .u8) 5 w18 w.heap.size (fun _ => True) (.slice Ao12 y138.length co12) y138) := ⟨h0_⟩
                     have n1_ : Aside0 (Kd.V (Kd.int .u8) 5 w18 w.heap.size (fun k_ => some k_ ≠ (.slice Ao12 y138.length co12 : Value).ownBlock) v143 y142) := ⟨h1_⟩
                     have n2_ : Aside0 (Kd.V (Kd.int .u8) 5 w18 w.heap.size (fun k_ => some k_ ≠ (.slice Ao12 y138.length co12 : Value).ownBlock) v155 y154) := ⟨h2_⟩
                     have n3_ : Aside0 (Below w.heap.size w w18) := ⟨h3_⟩
                     clear HO140
                     clear HB
                     clear h0_ h1_ h2_ h3_
                     have HO140 := n0_
                     have HO144 := n1_
                     have HO156 := n2_
                     have HB := n3_
                     clear n0_ n1_ n2_ n3_
                     have hHeld : w18.cell? ad137 = some (.int .i64 ((rd_T37 l0 0).f0)) ∧ w18.cell? ⟨ad137.block, ad137.off + 1, none⟩ = some (.string ((rd_T37 l0 0).f1)) ∧ w18.cell? ⟨ad137.block, ad137.off + 2, none⟩ = some (.string ((rd_T37 l0 0).f2)) ∧ w18.cell? ⟨ad137.block, ad137.off + 3, none⟩ = some (.slice A141_3 ((rd_T37 l0 0).f3).length c141_3) ∧ w18.cell? ⟨ad137.block, ad137.off + 4, none⟩ = some (.int .i64 ((rd_T37 l0 0).f4)) ∧ w18.cell? ⟨ad137.block, ad137.off + 5, none⟩ = some (.int .i64 ((rd_T37 l0 0).f5)) ∧ w18.cell? ⟨ad137.block, ad137.off + 6, none⟩ = some (.int .i64 ((rd_T37 l0 0).f6)) ∧ w18.cell? ⟨ad137.block, ad137.off + 7, none⟩ = some (.slice A141_7 ((rd_T37 l0 0).f7).length c141_7) := hS_
                     refine norm_ (a' := ?_) ?_ ?_
                     rotate_left
                     · simp only [putAll, Act.put, List.setIfInBounds_toArray, List.set_cons_zero, List.set_cons_succ]
                       rfl
                     refine two_ (i := 6) (j := 13) (Ni := some 23) (Nj := some 30) #[true, true, true, true, true, true, true, true, true, true, true, true, true, false, false, true, true, true, true, true, false, false] #[true, true, true, true, true, true, false, true, true, true, true, true, true, true, false, true, true, true, true, true, false, false] rfl rfl rfl rfl (two_of HT_.out (by kernel_rfl)) (by decide) (by decide) (fun K hK => ?_) (fun K hK => ?_)
                     · skip
                       obtain ⟨Ao20, co20, eo20⟩ := Kd.V_slice HO144.out
                       (first | subst eo20 | (injection eo20 with f1_ f2_ f3_; have f4_ := f1_.symm; have f5_ := f3_.symm; clear f1_ f2_ f3_; subst f4_; subst f5_))
                       refine Kd.R_append_rows_step (Kd.int .u8) (w0 := w) w.heap.size (by rfl) (.tmp 17) (.tmp 22) 24 5 (.int .u8 0) 1 rfl Try.underlying24 info5 rfl (by decide) (by omega) (.slice Ao12 y138.length co12) y138 y142 _ _ _ (fun _ => True) (fun _ => False) rfl rfl ?aO ?aR (fun _ _ h => h) (fun _ h => h.elim) ?aF ?aB ?aS ?aL ?_
                       (case aR => exact C_up (Kd.V_reads' HO144.out).2.2)
                       (case aB => exact (HB_up HB.out))
                       (case aF => exact (fun _ _ => trivial))
                       (case aO => exact (R_up HO140.out))
                       (case aS => exact (below_size (HB_up HB.out)))
                       (case aL => have := LMc4.out; omega)
                       intro v146 w19 ho hb hg hat
                       rw [← Ny145.out] at ho
                       have n0_ := Aside0.mk (Kd.V_afterv (ok := (fun _ => True)) (by (with_reducible repeat (first | apply Kd.V_alloc | apply Kd.V_drewN | apply Kd.V_drew)); exact Kd.V_mono HO144.out (fun _ hk => ⟨trivial, hk⟩)) hg hat)
                       have n1_ := Aside0.mk (Kd.V_afterv (ok := (fun _ => True)) (by (with_reducible repeat (first | apply Kd.V_alloc | apply Kd.V_drewN | apply Kd.V_drew)); exact Kd.V_mono HO156.out (fun _ hk => ⟨trivial, hk⟩)) hg hat)
                       have n2_ := Aside0.mk (hb)
                       have n3_ := Aside0.mk (ho)
                       clear HO144
                       clear HO156
                       clear HB
                       clear HO140
                       have HO144 := n0_
                       have HO156 := n1_
                       have HB := n2_
                       have HO147 := n3_
                       clear n0_ n1_ n2_ n3_
                       clear ho hb hg hat
                       refine hK.out _ _ ⟨(ck_ HB.out hw141_0), (ck_ HB.out hw141_1), (ck_ HB.out hw141_2), (ck_ HB.out hw141_3), (ck_ HB.out hw141_4), (ck_ HB.out hw141_5), (ck_ HB.out hw141_6), (ck_ HB.out hw141_7)⟩ (fun hHeld => ?_)
                       clear hK K
                       refine norm_ (a' := ?_) ?_ ?_
                       rotate_left
                       · show Act.put _ (some 23) _ = _
                         simp only [Act.put, List.setIfInBounds_toArray, List.set_cons_zero, List.set_cons_succ, i64_w, i32_w]
                         rfl
                       exact norm_ (by first | (simp only [putAll, Act.put, List.setIfInBounds_toArray, List.set_cons_zero, List.set_cons_succ]; done) | (simp only [putAll, Act.put, List.setIfInBounds_toArray, List.set_cons_zero, List.set_cons_succ]; rfl)) (hJ5_6_19 (.slice Ao20 y142.length co20, v146, v155) _ ⟨hHeld, (by (with_reducible repeat (first | apply Kd.V_alloc | apply Kd.V_drewN | apply Kd.V_drew)); exact Kd.V_mono HO144.out (fun _ hk => hk.2)), (R_up HO147.out), (by (with_reducible repeat (first | apply Kd.V_alloc | apply Kd.V_drewN | apply Kd.V_drew)); exact Kd.V_mono HO156.out (fun _ hk => hk.2)), (HB_up HB.out)⟩)
                     · skip
                       refine Kd.R_lit_step (Kd.int .u8) _ 5 ?hg (N := 30) ?hd (xs := ([((((rd_T37 l0 0).f2).size : Int)) % 256] : List Int)) (inner := [.int .u8 (((((rd_T37 l0 0).f2).size : Int)) % 256)]) (ok := fun _ => True) (okp := fun _ => True) ?hr ?hp (fun _ hk => hk) trivial (Below.refl _ _) (Nat.le_refl _) (by simp) ?_; (case hd => rfl); (case hg => rfl); (case hr => first | (go_simp; done) | (go_simp; rfl)); (case hp => exact (Reps.one (show Kd.M (Kd.int .u8) _ _ _ (((((rd_T37 l0 0).f2).size : Int)) % 256) [.int .u8 (((((rd_T37 l0 0).f2).size : Int)) % 256)] from rfl) (Reps.none _ _)))
                       intro v149 w19 ho20 hb hg_ hnew_
                       clear hg_ hnew_
                       (first | rw [← Ny148.out] at ho20 | (simp only [Int.reduceToNat] at ho20; rw [← Ny148.out] at ho20))
                       have n0_ := Aside0.mk (Kd.R_elder' (R_up HO140.out) (Kd.R_base ho20) hb)
                       have n1_ := Aside0.mk (Kd.V_elder' (V_up HO144.out) (Kd.R_base ho20) hb)
                       have n2_ := Aside0.mk (Kd.V_elder' (V_up HO156.out) (Kd.R_base ho20) hb)
                       have n3_ := Aside0.mk (Kd.R_lower (Kd.R_new' ho20 (Kd.R_lt (R_up HO140.out))) (below_size (HB_up HB.out)))
                       have n4_ := Aside0.mk (below_step (HB_up HB.out) hb)
                       clear HO140
                       clear HO144
                       clear HO156
                       clear HB
                       have HO140 := n0_
                       have HO144 := n1_
                       have HO156 := n2_
                       have HO150 := n3_
                       have HB := n4_
                       clear n0_ n1_ n2_ n3_ n4_
                       clear hb ho20
                       refine hK.out _ _ ⟨(ck_ HB.out hw141_0), (ck_ HB.out hw141_1), (ck_ HB.out hw141_2), (ck_ HB.out hw141_3), (ck_ HB.out hw141_4), (ck_ HB.out hw141_5), (ck_ HB.out hw141_6), (ck_ HB.out hw141_7)⟩ (fun hHeld => ?_)
                       clear hK K
                       refine norm_ (a' := ?_) ?_ ?_
                       rotate_left
                       · show Act.put _ (some 30) _ = _
                         simp only [Act.put, List.setIfInBounds_toArray, List.set_cons_zero, List.set_cons_succ, i64_w, i32_w]
                         rfl
                       exact norm_ (by first | (simp only [putAll, Act.put, List.setIfInBounds_toArray, List.set_cons_zero, List.set_cons_succ]; done) | (simp only [putAll, Act.put, List.setIfInBounds_toArray, List.set_cons_zero, List.set_cons_succ]; rfl)) (hJ5_13_19 (v143, v149, v155) _ ⟨hHeld, (by (with_reducible repeat (first | apply Kd.R_alloc | apply Kd.R_drewN | apply Kd.R_drew)); exact Kd.R_mono HO140.out (fun _ hk => hk.2)), (V_up HO144.out), (by (with_reducible repeat (first | apply Kd.R_alloc | apply Kd.R_drewN | apply Kd.R_drew)); exact Kd.R_mono HO150.out (fun _ hk => hk.2)), (V_up HO156.out), (HB_up HB.out)⟩)
                 · skip
                   rintro ⟨v143, v149⟩ w18 ⟨hS_, h0_, h1_, h2_, h3_⟩
                   have n0_ : Aside0 (Kd.R (Kd.int .u8) 5 w18 w.heap.size (fun k_ => some k_ ≠ (v149 : Value).ownBlock) (.slice Ao12 y138.length co12) y138) := ⟨h0_⟩
                   have n1_ : Aside0 (Kd.V (Kd.int .u8) 5 w18 w.heap.size (fun k_ => some k_ ≠ (.slice Ao12 y138.length co12 : Value).ownBlock ∧ some k_ ≠ (v149 : Value).ownBlock) v143 y142) := ⟨h1_⟩
                   have n2_ : Aside0 (Kd.R (Kd.int .u8) 5 w18 w.heap.size (fun k_ => some k_ ≠ (.slice Ao12 y138.length co12 : Value).ownBlock) v149 y148) := ⟨h2_⟩
                   have n3_ : Aside0 (Below w.heap.size w w18) := ⟨h3_⟩
                   clear HO140
                   clear HB
                   clear h0_ h1_ h2_ h3_
                   have HO140 := n0_
                   have HO144 := n1_
                   have HO150 := n2_
                   have HB := n3_
                   clear n0_ n1_ n2_ n3_
                   have hHeld : w18.cell? ad137 = some (.int .i64 ((rd_T37 l0 0).f0)) ∧ w18.cell? ⟨ad137.block, ad137.off + 1, none⟩ = some (.string ((rd_T37 l0 0).f1)) ∧ w18.cell? ⟨ad137.block, ad137.off + 2, none⟩ = some (.string ((rd_T37 l0 0).f2)) ∧ w18.cell? ⟨ad137.block, ad137.off + 3, none⟩ = some (.slice A141_3 ((rd_T37 l0 0).f3).length c141_3) ∧ w18.cell? ⟨ad137.block, ad137.off + 4, none⟩ = some (.int .i64 ((rd_T37 l0 0).f4)) ∧ w18.cell? ⟨ad137.block, ad137.off + 5, none⟩ = some (.int .i64 ((rd_T37 l0 0).f5)) ∧ w18.cell? ⟨ad137.block, ad137.off + 6, none⟩ = some (.int .i64 ((rd_T37 l0 0).f6)) ∧ w18.cell? ⟨ad137.block, ad137.off + 7, none⟩ = some (.slice A141_7 ((rd_T37 l0 0).f7).length c141_7) := hS_
                   refine norm_ (a' := ?_) ?_ ?_
                   rotate_left
                   · simp only [putAll, Act.put, List.setIfInBounds_toArray, List.set_cons_zero, List.set_cons_succ]
                     rfl
                   refine two_ (i := 6) (j := 19) (Ni := some 23) (Nj := some 36) #[true, true, true, true, true, true, true, true, true, true, true, true, true, true, false, true, true, true, true, false, false, false] #[true, true, true, true, true, true, false, true, true, true, true, true, true, true, false, true, true, true, true, true, false, false] rfl rfl rfl rfl (two_of HT_.out (by kernel_rfl)) (by decide) (by decide) (fun K hK => ?_) (fun K hK => ?_)
                   · skip
                     obtain ⟨Ao20, co20, eo20⟩ := Kd.V_slice HO144.out
                     (first | subst eo20 | (injection eo20 with f1_ f2_ f3_; have f4_ := f1_.symm; have f5_ := f3_.symm; clear f1_ f2_ f3_; subst f4_; subst f5_))
                     refine Kd.R_append_rows_step (Kd.int .u8) (w0 := w) w.heap.size (by rfl) (.tmp 17) (.tmp 22) 24 5 (.int .u8 0) 1 rfl Try.underlying24 info5 rfl (by decide) (by omega) (.slice Ao12 y138.length co12) y138 y142 _ _ _ (fun k_ => some k_ ≠ (v149 : Value).ownBlock) (fun _ => False) rfl rfl ?aO ?aR (fun _ _ h => h) (fun _ h => h.elim) ?aF ?aB ?aS ?aL ?_
                     (case aR => exact C_up (Kd.V_reads' HO144.out).2.2)
                     (case aB => exact (HB_up HB.out))
                     (case aF => exact (fun k_ hk => Kd.fresh' (Kd.R_lt (R_up HO150.out)) k_ hk))
                     (case aO => exact (R_up HO140.out))
                     (case aS => exact (below_size (HB_up HB.out)))
                     (case aL => have := LMc4.out; omega)
                     intro v146 w19 ho hb hg hat
                     rw [← Ny145.out] at ho
                     have n0_ := Aside0.mk (Kd.V_afterv (ok := (fun k_ => some k_ ≠ (v149 : Value).ownBlock)) (by (with_reducible repeat (first | apply Kd.V_alloc | apply Kd.V_drewN | apply Kd.V_drew)); exact Kd.V_mono HO144.out (fun _ hk => ⟨hk.2, hk.1⟩)) hg hat)
                     have n1_ := Aside0.mk (Kd.R_after (ok := (fun _ => True)) (by (with_reducible repeat (first | apply Kd.R_alloc | apply Kd.R_drewN | apply Kd.R_drew)); exact Kd.R_mono HO150.out (fun _ hk => ⟨trivial, hk⟩)) hg hat)
                     have n2_ := Aside0.mk (hb)
                     have n3_ := Aside0.mk (ho)
                     clear HO144
                     clear HO150
                     clear HB
                     clear HO140
                     have HO144 := n0_
                     have HO150 := n1_
                     have HB := n2_
                     have HO147 := n3_
                     clear n0_ n1_ n2_ n3_
                     clear ho hb hg hat
                     refine hK.out _ _ ⟨(ck_ HB.out hw141_0), (ck_ HB.out hw141_1), (ck_ HB.out hw141_2), (ck_ HB.out hw141_3), (ck_ HB.out hw141_4), (ck_ HB.out hw141_5), (ck_ HB.out hw141_6), (ck_ HB.out hw141_7)⟩ (fun hHeld => ?_)
                     clear hK K
                     refine norm_ (a' := ?_) ?_ ?_
                     rotate_left
                     · show Act.put _ (some 23) _ = _
                       simp only [Act.put, List.setIfInBounds_toArray, List.set_cons_zero, List.set_cons_succ, i64_w, i32_w]
                       rfl
                     exact norm_ (by first | (simp only [putAll, Act.put, List.setIfInBounds_toArray, List.set_cons_zero, List.set_cons_succ]; done) | (simp only [putAll, Act.put, List.setIfInBounds_toArray, List.set_cons_zero, List.set_cons_succ]; rfl)) (hJ5_6_13 (.slice Ao20 y142.length co20, v146, v149) _ ⟨hHeld, (by (with_reducible repeat (first | apply Kd.V_alloc | apply Kd.V_drewN | apply Kd.V_drew)); exact Kd.V_mono HO144.out (fun _ hk => ⟨hk.2, hk.1⟩)), (R_up HO147.out), (by (with_reducible repeat (first | apply Kd.R_alloc | apply Kd.R_drewN | apply Kd.R_drew)); exact Kd.R_mono HO150.out (fun _ hk => hk.2)), (HB_up HB.out)⟩)
                   · skip
                     refine Kd.V_conv_step _ 5 (by rfl) (N' := 36) rfl 9 24 _ rfl Try.underlying9 Try.underlying24 Try.underlying5 ((rd_T37 l0 0).f2) rfl (by have := LMc6.out; omega) (Below.refl _ _) (Nat.le_refl _) ?_
                     intro v155 w19 ho20 hb hg_ hnew_
                     clear hg_ hnew_
                     (first | rw [← Ny154.out] at ho20 | (simp only [Int.reduceToNat] at ho20; rw [← Ny154.out] at ho20))
                     have n0_ := Aside0.mk (Kd.R_below (R_up HO140.out) hb)
                     have n1_ := Aside0.mk (Kd.V_below (V_up HO144.out) hb)
                     have n2_ := Aside0.mk (Kd.R_below (R_up HO150.out) hb)
                     have n3_ := Aside0.mk (Kd.V_lower (Kd.V_mono (ok' := fun k_ => some k_ ≠ (.slice Ao12 y138.length co12 : Value).ownBlock ∧ some k_ ≠ (v149 : Value).ownBlock) ho20 (fun k_ hk_ => ⟨(Kd.fresh' (Kd.R_lt (R_up HO140.out)) k_ hk_), (Kd.fresh' (Kd.R_lt (R_up HO150.out)) k_ hk_)⟩)) (below_size (HB_up HB.out)))
                     have n4_ := Aside0.mk (below_step (HB_up HB.out) hb)
                     clear HO140
                     clear HO144
                     clear HO150
                     clear HB
                     have HO140 := n0_
                     have HO144 := n1_
                     have HO150 := n2_
                     have HO156 := n3_
                     have HB := n4_
                     clear n0_ n1_ n2_ n3_ n4_
                     clear hb ho20
                     refine hK.out _ _ ⟨(ck_ HB.out hw141_0), (ck_ HB.out hw141_1), (ck_ HB.out hw141_2), (ck_ HB.out hw141_3), (ck_ HB.out hw141_4), (ck_ HB.out hw141_5), (ck_ HB.out hw141_6), (ck_ HB.out hw141_7)⟩ (fun hHeld => ?_)
                     clear hK K
                     refine norm_ (a' := ?_) ?_ ?_
                     rotate_left
                     · show Act.put _ (some 36) _ = _
                       simp only [Act.put, List.setIfInBounds_toArray, List.set_cons_zero, List.set_cons_succ, i64_w, i32_w]
                       rfl
                     exact norm_ (by first | (simp only [putAll, Act.put, List.setIfInBounds_toArray, List.set_cons_zero, List.set_cons_succ]; done) | (simp only [putAll, Act.put, List.setIfInBounds_toArray, List.set_cons_zero, List.set_cons_succ]; rfl)) (hJ5_13_19 (v143, v149, v155) _ ⟨hHeld, (R_up HO140.out), (V_up HO144.out), (R_up HO150.out), (V_up HO156.out), (HB_up HB.out)⟩)
               · skip
                 rintro ⟨v143, v146⟩ w18 ⟨hS_, h0_, h1_, h2_⟩
                 have n0_ : Aside0 (Kd.V (Kd.int .u8) 5 w18 w.heap.size (fun k_ => some k_ ≠ (v146 : Value).ownBlock) v143 y142) := ⟨h0_⟩
                 have n1_ : Aside0 (Kd.R (Kd.int .u8) 5 w18 w.heap.size (fun _ => True) v146 y145) := ⟨h1_⟩
                 have n2_ : Aside0 (Below w.heap.size w w18) := ⟨h2_⟩
                 clear HO140
                 clear HB
                 clear h0_ h1_ h2_
                 have HO144 := n0_
                 have HO147 := n1_
                 have HB := n2_
                 clear n0_ n1_ n2_
                 have hHeld : w18.cell? ad137 = some (.int .i64 ((rd_T37 l0 0).f0)) ∧ w18.cell? ⟨ad137.block, ad137.off + 1, none⟩ = some (.string ((rd_T37 l0 0).f1)) ∧ w18.cell? ⟨ad137.block, ad137.off + 2, none⟩ = some (.string ((rd_T37 l0 0).f2)) ∧ w18.cell? ⟨ad137.block, ad137.off + 3, none⟩ = some (.slice A141_3 ((rd_T37 l0 0).f3).length c141_3) ∧ w18.cell? ⟨ad137.block, ad137.off + 4, none⟩ = some (.int .i64 ((rd_T37 l0 0).f4)) ∧ w18.cell? ⟨ad137.block, ad137.off + 5, none⟩ = some (.int .i64 ((rd_T37 l0 0).f5)) ∧ w18.cell? ⟨ad137.block, ad137.off + 6, none⟩ = some (.int .i64 ((rd_T37 l0 0).f6)) ∧ w18.cell? ⟨ad137.block, ad137.off + 7, none⟩ = some (.slice A141_7 ((rd_T37 l0 0).f7).length c141_7) := hS_
                 refine norm_ (a' := ?_) ?_ ?_
                 rotate_left
                 · simp only [putAll, Act.put, List.setIfInBounds_toArray, List.set_cons_zero, List.set_cons_succ]
                   rfl
                 refine two_ (i := 13) (j := 19) (Ni := some 30) (Nj := some 36) #[true, true, true, true, true, true, true, true, true, true, true, true, true, true, false, true, true, true, true, false, false, false] #[true, true, true, true, true, true, true, true, true, true, true, true, true, false, false, true, true, true, true, true, false, false] rfl rfl rfl rfl (two_of HT_.out (by kernel_rfl)) (by decide) (by decide) (fun K hK => ?_) (fun K hK => ?_)
                 · skip
                   refine Kd.R_lit_step (Kd.int .u8) _ 5 ?hg (N := 30) ?hd (xs := ([((((rd_T37 l0 0).f2).size : Int)) % 256] : List Int)) (inner := [.int .u8 (((((rd_T37 l0 0).f2).size : Int)) % 256)]) (ok := fun _ => True) (okp := fun _ => True) ?hr ?hp (fun _ hk => hk) trivial (Below.refl _ _) (Nat.le_refl _) (by simp) ?_; (case hd => rfl); (case hg => rfl); (case hr => first | (go_simp; done) | (go_simp; rfl)); (case hp => exact (Reps.one (show Kd.M (Kd.int .u8) _ _ _ (((((rd_T37 l0 0).f2).size : Int)) % 256) [.int .u8 (((((rd_T37 l0 0).f2).size : Int)) % 256)] from rfl) (Reps.none _ _)))
                   intro v149 w19 ho20 hb hg_ hnew_
                   clear hg_ hnew_
                   (first | rw [← Ny148.out] at ho20 | (simp only [Int.reduceToNat] at ho20; rw [← Ny148.out] at ho20))
                   have n0_ := Aside0.mk (Kd.V_elder' (V_up HO144.out) (Kd.R_base ho20) hb)
                   have n1_ := Aside0.mk (Kd.R_elder' (R_up HO147.out) (Kd.R_base ho20) hb)
                   have n2_ := Aside0.mk (Kd.R_lower (Kd.R_new' ho20 (Kd.R_lt (R_up HO147.out))) (below_size (HB_up HB.out)))
                   have n3_ := Aside0.mk (below_step (HB_up HB.out) hb)
                   clear HO144
                   clear HO147
                   clear HB
                   have HO144 := n0_
                   have HO147 := n1_
                   have HO150 := n2_
                   have HB := n3_
                   clear n0_ n1_ n2_ n3_
                   clear hb ho20
                   refine hK.out _ _ ⟨(ck_ HB.out hw141_0), (ck_ HB.out hw141_1), (ck_ HB.out hw141_2), (ck_ HB.out hw141_3), (ck_ HB.out hw141_4), (ck_ HB.out hw141_5), (ck_ HB.out hw141_6), (ck_ HB.out hw141_7)⟩ (fun hHeld => ?_)
                   clear hK K
                   refine norm_ (a' := ?_) ?_ ?_
                   rotate_left
                   · show Act.put _ (some 30) _ = _
                     simp only [Act.put, List.setIfInBounds_toArray, List.set_cons_zero, List.set_cons_succ, i64_w, i32_w]
                     rfl
                   exact norm_ (by first | (simp only [putAll, Act.put, List.setIfInBounds_toArray, List.set_cons_zero, List.set_cons_succ]; done) | (simp only [putAll, Act.put, List.setIfInBounds_toArray, List.set_cons_zero, List.set_cons_succ]; rfl)) (hJ5_6_13 (v143, v146, v149) _ ⟨hHeld, (V_up HO144.out), (by (with_reducible repeat (first | apply Kd.R_alloc | apply Kd.R_drewN | apply Kd.R_drew)); exact Kd.R_mono HO147.out (fun _ hk => hk.2)), (by (with_reducible repeat (first | apply Kd.R_alloc | apply Kd.R_drewN | apply Kd.R_drew)); exact Kd.R_mono HO150.out (fun _ hk => hk.2)), (HB_up HB.out)⟩)
                 · skip
                   refine Kd.V_conv_step _ 5 (by rfl) (N' := 36) rfl 9 24 _ rfl Try.underlying9 Try.underlying24 Try.underlying5 ((rd_T37 l0 0).f2) rfl (by have := LMc6.out; omega) (Below.refl _ _) (Nat.le_refl _) ?_
                   intro v155 w19 ho20 hb hg_ hnew_
                   clear hg_ hnew_
                   (first | rw [← Ny154.out] at ho20 | (simp only [Int.reduceToNat] at ho20; rw [← Ny154.out] at ho20))
                   have n0_ := Aside0.mk (Kd.V_below (V_up HO144.out) hb)
                   have n1_ := Aside0.mk (Kd.R_below (R_up HO147.out) hb)
                   have n2_ := Aside0.mk (Kd.V_lower (Kd.V_mono (ok' := fun k_ => some k_ ≠ (v146 : Value).ownBlock) ho20 (fun k_ hk_ => (Kd.fresh' (Kd.R_lt (R_up HO147.out)) k_ hk_))) (below_size (HB_up HB.out)))
                   have n3_ := Aside0.mk (below_step (HB_up HB.out) hb)
                   clear HO144
                   clear HO147
                   clear HB
                   have HO144 := n0_
                   have HO147 := n1_
                   have HO156 := n2_
                   have HB := n3_
                   clear n0_ n1_ n2_ n3_
                   clear hb ho20
                   refine hK.out _ _ ⟨(ck_ HB.out hw141_0), (ck_ HB.out hw141_1), (ck_ HB.out hw141_2), (ck_ HB.out hw141_3), (ck_ HB.out hw141_4), (ck_ HB.out hw141_5), (ck_ HB.out hw141_6), (ck_ HB.out hw141_7)⟩ (fun hHeld => ?_)
                   clear hK K
                   refine norm_ (a' := ?_) ?_ ?_
                   rotate_left
                   · show Act.put _ (some 36) _ = _
                     simp only [Act.put, List.setIfInBounds_toArray, List.set_cons_zero, List.set_cons_succ, i64_w, i32_w]
                     rfl
                   exact norm_ (by first | (simp only [putAll, Act.put, List.setIfInBounds_toArray, List.set_cons_zero, List.set_cons_succ]; done) | (simp only [putAll, Act.put, List.setIfInBounds_toArray, List.set_cons_zero, List.set_cons_succ]; rfl)) (hJ5_6_19 (v143, v146, v155) _ ⟨hHeld, (V_up HO144.out), (R_up HO147.out), (V_up HO156.out), (HB_up HB.out)⟩)
             · skip
               rintro ⟨v143, v149, v155⟩ w20 ⟨hS_, h0_, h1_, h2_, h3_, h4_⟩
               have n0_ : Aside0 (Kd.R (Kd.int .u8) 5 w20 w.heap.size (fun k_ => some k_ ≠ (v149 : Value).ownBlock) (.slice Ao12 y138.length co12) y138) := ⟨h0_⟩
               have n1_ : Aside0 (Kd.V (Kd.int .u8) 5 w20 w.heap.size (fun k_ => some k_ ≠ (.slice Ao12 y138.length co12 : Value).ownBlock ∧ some k_ ≠ (v149 : Value).ownBlock) v143 y142) := ⟨h1_⟩
               have n2_ : Aside0 (Kd.R (Kd.int .u8) 5 w20 w.heap.size (fun k_ => some k_ ≠ (.slice Ao12 y138.length co12 : Value).ownBlock) v149 y148) := ⟨h2_⟩
               have n3_ : Aside0 (Kd.V (Kd.int .u8) 5 w20 w.heap.size (fun k_ => some k_ ≠ (.slice Ao12 y138.length co12 : Value).ownBlock ∧ some k_ ≠ (v149 : Value).ownBlock) v155 y154) := ⟨h3_⟩
               have n4_ : Aside0 (Below w.heap.size w w20) := ⟨h4_⟩
               clear HO140
               clear HB
               clear h0_ h1_ h2_ h3_ h4_
               have HO140 := n0_
               have HO144 := n1_
               have HO150 := n2_
               have HO156 := n3_
               have HB := n4_
               clear n0_ n1_ n2_ n3_ n4_
               have hHeld : w20.cell? ad137 = some (.int .i64 ((rd_T37 l0 0).f0)) ∧ w20.cell? ⟨ad137.block, ad137.off + 1, none⟩ = some (.string ((rd_T37 l0 0).f1)) ∧ w20.cell? ⟨ad137.block, ad137.off + 2, none⟩ = some (.string ((rd_T37 l0 0).f2)) ∧ w20.cell? ⟨ad137.block, ad137.off + 3, none⟩ = some (.slice A141_3 ((rd_T37 l0 0).f3).length c141_3) ∧ w20.cell? ⟨ad137.block, ad137.off + 4, none⟩ = some (.int .i64 ((rd_T37 l0 0).f4)) ∧ w20.cell? ⟨ad137.block, ad137.off + 5, none⟩ = some (.int .i64 ((rd_T37 l0 0).f5)) ∧ w20.cell? ⟨ad137.block, ad137.off + 6, none⟩ = some (.int .i64 ((rd_T37 l0 0).f6)) ∧ w20.cell? ⟨ad137.block, ad137.off + 7, none⟩ = some (.slice A141_7 ((rd_T37 l0 0).f7).length c141_7) := hS_
               refine norm_ (a' := ?_) ?_ ?_
               rotate_left
               · simp only [putAll, Act.put, List.setIfInBounds_toArray, List.set_cons_zero, List.set_cons_succ]
                 rfl
               refine one_ (i := 6) (N := some 23) #[true, true, true, true, true, true, true, true, true, true, true, true, true, true, false, true, true, true, true, true, false, false] rfl rfl (one_of HT_.out (by kernel_rfl)) (by decide) (fun K hK => ?_)
               obtain ⟨Ao22, co22, eo22⟩ := Kd.V_slice HO144.out
               (first | subst eo22 | (injection eo22 with f1_ f2_ f3_; have f4_ := f1_.symm; have f5_ := f3_.symm; clear f1_ f2_ f3_; subst f4_; subst f5_))
               refine Kd.R_append_rows_step (Kd.int .u8) (w0 := w) w.heap.size (by rfl) (.tmp 17) (.tmp 22) 24 5 (.int .u8 0) 1 rfl Try.underlying24 info5 rfl (by decide) (by omega) (.slice Ao12 y138.length co12) y138 y142 _ _ _ (fun k_ => some k_ ≠ (v149 : Value).ownBlock) (fun _ => False) rfl rfl ?aO ?aR (fun _ _ h => h) (fun _ h => h.elim) ?aF ?aB ?aS ?aL ?_
               (case aR => exact C_up (Kd.V_reads' HO144.out).2.2)
               (case aB => exact (HB_up HB.out))
               (case aF => exact (fun k_ hk => Kd.fresh' (Kd.R_lt (R_up HO150.out)) k_ hk))
               (case aO => exact (R_up HO140.out))
               (case aS => exact (below_size (HB_up HB.out)))
               (case aL => have := LMc4.out; omega)
               intro v146 w21 ho hb hg hat
               rw [← Ny145.out] at ho
               have n0_ := Aside0.mk (Kd.V_afterv (ok := (fun k_ => some k_ ≠ (v149 : Value).ownBlock)) (by (with_reducible repeat (first | apply Kd.V_alloc | apply Kd.V_drewN | apply Kd.V_drew)); exact Kd.V_mono HO144.out (fun _ hk => ⟨hk.2, hk.1⟩)) hg hat)
               have n1_ := Aside0.mk (Kd.R_after (ok := (fun _ => True)) (by (with_reducible repeat (first | apply Kd.R_alloc | apply Kd.R_drewN | apply Kd.R_drew)); exact Kd.R_mono HO150.out (fun _ hk => ⟨trivial, hk⟩)) hg hat)
               have n2_ := Aside0.mk (Kd.V_afterv (ok := (fun k_ => some k_ ≠ (v149 : Value).ownBlock)) (by (with_reducible repeat (first | apply Kd.V_alloc | apply Kd.V_drewN | apply Kd.V_drew)); exact Kd.V_mono HO156.out (fun _ hk => ⟨hk.2, hk.1⟩)) hg hat)
               have n3_ := Aside0.mk (hb)
               have n4_ := Aside0.mk (ho)
               clear HO144
               clear HO150
               clear HO156
               clear HB
               clear HO140
               have HO144 := n0_
               have HO150 := n1_
               have HO156 := n2_
               have HB := n3_
               have HO147 := n4_
               clear n0_ n1_ n2_ n3_ n4_
               clear ho hb hg hat
               refine hK.out _ _ ⟨(ck_ HB.out hw141_0), (ck_ HB.out hw141_1), (ck_ HB.out hw141_2), (ck_ HB.out hw141_3), (ck_ HB.out hw141_4), (ck_ HB.out hw141_5), (ck_ HB.out hw141_6), (ck_ HB.out hw141_7)⟩ (fun hHeld => ?_)
               clear hK K
               refine norm_ (a' := ?_) ?_ ?_
               rotate_left
               · show Act.put _ (some 23) _ = _
                 simp only [Act.put, List.setIfInBounds_toArray, List.set_cons_zero, List.set_cons_succ, i64_w, i32_w]
                 rfl
               exact norm_ (by first | (simp only [putAll, Act.put, List.setIfInBounds_toArray, List.set_cons_zero, List.set_cons_succ]; done) | (simp only [putAll, Act.put, List.setIfInBounds_toArray, List.set_cons_zero, List.set_cons_succ]; rfl)) (hJ5_6_13_19 (.slice Ao22 y142.length co22, v146, v149, v155) _ ⟨hHeld, (by (with_reducible repeat (first | apply Kd.V_alloc | apply Kd.V_drewN | apply Kd.V_drew)); exact Kd.V_mono HO144.out (fun _ hk => ⟨hk.2, hk.1⟩)), (R_up HO147.out), (by (with_reducible repeat (first | apply Kd.R_alloc | apply Kd.R_drewN | apply Kd.R_drew)); exact Kd.R_mono HO150.out (fun _ hk => hk.2)), (by (with_reducible repeat (first | apply Kd.V_alloc | apply Kd.V_drewN | apply Kd.V_drew)); exact Kd.V_mono HO156.out (fun _ hk => ⟨hk.2, hk.1⟩)), (HB_up HB.out)⟩)
           · skip
             rintro ⟨v143, v146, v155⟩ w20 ⟨hS_, h0_, h1_, h2_, h3_⟩
             have n0_ : Aside0 (Kd.V (Kd.int .u8) 5 w20 w.heap.size (fun k_ => some k_ ≠ (v146 : Value).ownBlock) v143 y142) := ⟨h0_⟩
             have n1_ : Aside0 (Kd.R (Kd.int .u8) 5 w20 w.heap.size (fun _ => True) v146 y145) := ⟨h1_⟩
             have n2_ : Aside0 (Kd.V (Kd.int .u8) 5 w20 w.heap.size (fun k_ => some k_ ≠ (v146 : Value).ownBlock) v155 y154) := ⟨h2_⟩
             have n3_ : Aside0 (Below w.heap.size w w20) := ⟨h3_⟩
             clear HO140
             clear HB
             clear h0_ h1_ h2_ h3_
             have HO144 := n0_
             have HO147 := n1_
             have HO156 := n2_
             have HB := n3_
             clear n0_ n1_ n2_ n3_
             have hHeld : w20.cell? ad137 = some (.int .i64 ((rd_T37 l0 0).f0)) ∧ w20.cell? ⟨ad137.block, ad137.off + 1, none⟩ = some (.string ((rd_T37 l0 0).f1)) ∧ w20.cell? ⟨ad137.block, ad137.off + 2, none⟩ = some (.string ((rd_T37 l0 0).f2)) ∧ w20.cell? ⟨ad137.block, ad137.off + 3, none⟩ = some (.slice A141_3 ((rd_T37 l0 0).f3).length c141_3) ∧ w20.cell? ⟨ad137.block, ad137.off + 4, none⟩ = some (.int .i64 ((rd_T37 l0 0).f4)) ∧ w20.cell? ⟨ad137.block, ad137.off + 5, none⟩ = some (.int .i64 ((rd_T37 l0 0).f5)) ∧ w20.cell? ⟨ad137.block, ad137.off + 6, none⟩ = some (.int .i64 ((rd_T37 l0 0).f6)) ∧ w20.cell? ⟨ad137.block, ad137.off + 7, none⟩ = some (.slice A141_7 ((rd_T37 l0 0).f7).length c141_7) := hS_
             refine norm_ (a' := ?_) ?_ ?_
             rotate_left
             · simp only [putAll, Act.put, List.setIfInBounds_toArray, List.set_cons_zero, List.set_cons_succ]
               rfl
             refine one_ (i := 13) (N := some 30) #[true, true, true, true, true, true, true, true, true, true, true, true, true, true, false, true, true, true, true, true, false, false] rfl rfl (one_of HT_.out (by kernel_rfl)) (by decide) (fun K hK => ?_)
             refine Kd.R_lit_step (Kd.int .u8) _ 5 ?hg (N := 30) ?hd (xs := ([((((rd_T37 l0 0).f2).size : Int)) % 256] : List Int)) (inner := [.int .u8 (((((rd_T37 l0 0).f2).size : Int)) % 256)]) (ok := fun _ => True) (okp := fun _ => True) ?hr ?hp (fun _ hk => hk) trivial (Below.refl _ _) (Nat.le_refl _) (by simp) ?_; (case hd => rfl); (case hg => rfl); (case hr => first | (go_simp; done) | (go_simp; rfl)); (case hp => exact (Reps.one (show Kd.M (Kd.int .u8) _ _ _ (((((rd_T37 l0 0).f2).size : Int)) % 256) [.int .u8 (((((rd_T37 l0 0).f2).size : Int)) % 256)] from rfl) (Reps.none _ _)))
             intro v149 w21 ho22 hb hg_ hnew_
             clear hg_ hnew_
             (first | rw [← Ny148.out] at ho22 | (simp only [Int.reduceToNat] at ho22; rw [← Ny148.out] at ho22))
             have n0_ := Aside0.mk (Kd.V_elder' (V_up HO144.out) (Kd.R_base ho22) hb)
             have n1_ := Aside0.mk (Kd.R_elder' (R_up HO147.out) (Kd.R_base ho22) hb)
             have n2_ := Aside0.mk (Kd.V_elder' (V_up HO156.out) (Kd.R_base ho22) hb)
             have n3_ := Aside0.mk (Kd.R_lower (Kd.R_new' ho22 (Kd.R_lt (R_up HO147.out))) (below_size (HB_up HB.out)))
             have n4_ := Aside0.mk (below_step (HB_up HB.out) hb)
             clear HO144
             clear HO147
             clear HO156
             clear HB
             have HO144 := n0_
             have HO147 := n1_
             have HO156 := n2_
             have HO150 := n3_
             have HB := n4_
             clear n0_ n1_ n2_ n3_ n4_
             clear hb ho22
             refine hK.out _ _ ⟨(ck_ HB.out hw141_0), (ck_ HB.out hw141_1), (ck_ HB.out hw141_2), (ck_ HB.out hw141_3), (ck_ HB.out hw141_4), (ck_ HB.out hw141_5), (ck_ HB.out hw141_6), (ck_ HB.out hw141_7)⟩ (fun hHeld => ?_)
             clear hK K
             refine norm_ (a' := ?_) ?_ ?_
             rotate_left
             · show Act.put _ (some 30) _ = _
               simp only [Act.put, List.setIfInBounds_toArray, List.set_cons_zero, List.set_cons_succ, i64_w, i32_w]
               rfl
             exact norm_ (by first | (simp only [putAll, Act.put, List.setIfInBounds_toArray, List.set_cons_zero, List.set_cons_succ]; done) | (simp only [putAll, Act.put, List.setIfInBounds_toArray, List.set_cons_zero, List.set_cons_succ]; rfl)) (hJ5_6_13_19 (v143, v146, v149, v155) _ ⟨hHeld, (V_up HO144.out), (by (with_reducible repeat (first | apply Kd.R_alloc | apply Kd.R_drewN | apply Kd.R_drew)); exact Kd.R_mono HO147.out (fun _ hk => hk.2)), (by (with_reducible repeat (first | apply Kd.R_alloc | apply Kd.R_drewN | apply Kd.R_drew)); exact Kd.R_mono HO150.out (fun _ hk => hk.2)), (V_up HO156.out), (HB_up HB.out)⟩)
         · skip
           rintro ⟨v143, v146, v149⟩ w20 ⟨hS_, h0_, h1_, h2_, h3_⟩
           have n0_ : Aside0 (Kd.V (Kd.int .u8) 5 w20 w.heap.size (fun k_ => some k_ ≠ (v146 : Value).ownBlock ∧ some k_ ≠ (v149 : Value).ownBlock) v143 y142) := ⟨h0_⟩
           have n1_ : Aside0 (Kd.R (Kd.int .u8) 5 w20 w.heap.size (fun k_ => some k_ ≠ (v149 : Value).ownBlock) v146 y145) := ⟨h1_⟩
           have n2_ : Aside0 (Kd.R (Kd.int .u8) 5 w20 w.heap.size (fun k_ => some k_ ≠ (v146 : Value).ownBlock) v149 y148) := ⟨h2_⟩
           have n3_ : Aside0 (Below w.heap.size w w20) := ⟨h3_⟩
           clear HO140
           clear HB
           clear h0_ h1_ h2_ h3_
           have HO144 := n0_
           have HO147 := n1_
           have HO150 := n2_
           have HB := n3_
           clear n0_ n1_ n2_ n3_
           have hHeld : w20.cell? ad137 = some (.int .i64 ((rd_T37 l0 0).f0)) ∧ w20.cell? ⟨ad137.block, ad137.off + 1, none⟩ = some (.string ((rd_T37 l0 0).f1)) ∧ w20.cell? ⟨ad137.block, ad137.off + 2, none⟩ = some (.string ((rd_T37 l0 0).f2)) ∧ w20.cell? ⟨ad137.block, ad137.off + 3, none⟩ = some (.slice A141_3 ((rd_T37 l0 0).f3).length c141_3) ∧ w20.cell? ⟨ad137.block, ad137.off + 4, none⟩ = some (.int .i64 ((rd_T37 l0 0).f4)) ∧ w20.cell? ⟨ad137.block, ad137.off + 5, none⟩ = some (.int .i64 ((rd_T37 l0 0).f5)) ∧ w20.cell? ⟨ad137.block, ad137.off + 6, none⟩ = some (.int .i64 ((rd_T37 l0 0).f6)) ∧ w20.cell? ⟨ad137.block, ad137.off + 7, none⟩ = some (.slice A141_7 ((rd_T37 l0 0).f7).length c141_7) := hS_
           refine norm_ (a' := ?_) ?_ ?_
           rotate_left
           · simp only [putAll, Act.put, List.setIfInBounds_toArray, List.set_cons_zero, List.set_cons_succ]
             rfl
           refine two_ (i := 14) (j := 19) (Ni := some 31) (Nj := some 36) #[true, true, true, true, true, true, true, true, true, true, true, true, true, true, true, true, true, true, true, false, false, false] #[true, true, true, true, true, true, true, true, true, true, true, true, true, true, false, true, true, true, true, true, false, false] rfl rfl rfl rfl (two_of HT_.out (by kernel_rfl)) (by decide) (by decide) (fun K hK => ?_) (fun K hK => ?_)
           · skip
             obtain ⟨Ao22, co22, eo22⟩ := Kd.R_slice HO150.out
             (first | subst eo22 | (injection eo22 with f1_ f2_ f3_; have f4_ := f1_.symm; have f5_ := f3_.symm; clear f1_ f2_ f3_; subst f4_; subst f5_))
             refine Kd.R_append_rows_step (Kd.int .u8) (w0 := w) w.heap.size (by rfl) (.tmp 23) (.tmp 30) 24 5 (.int .u8 0) 1 rfl Try.underlying24 info5 rfl (by decide) (by omega) v146 y145 y148 _ _ _ (fun k_ => some k_ ≠ (.slice Ao22 y148.length co22 : Value).ownBlock) (fun _ => False) rfl rfl ?aO ?aR (fun _ _ h => h) (fun _ h => h.elim) ?aF ?aB ?aS ?aL ?_
             (case aR => exact C_up (Kd.R_reads' HO150.out).2.2)
             (case aB => exact (HB_up HB.out))
             (case aF => exact (fun k_ hk => Kd.fresh' (Kd.R_lt (R_up HO150.out)) k_ hk))
             (case aO => exact (R_up HO147.out))
             (case aS => exact (below_size (HB_up HB.out)))
             (case aL => have := LMc5.out; omega)
             intro v152 w21 ho hb hg hat
             rw [← Ny151.out] at ho
             have n0_ := Aside0.mk (Kd.V_afterv (ok := (fun k_ => some k_ ≠ (.slice Ao22 y148.length co22 : Value).ownBlock)) (by (with_reducible repeat (first | apply Kd.V_alloc | apply Kd.V_drewN | apply Kd.V_drew)); exact Kd.V_mono HO144.out (fun _ hk => ⟨hk.2, hk.1⟩)) hg hat)
             have n1_ := Aside0.mk (Kd.R_after (ok := (fun _ => True)) (by (with_reducible repeat (first | apply Kd.R_alloc | apply Kd.R_drewN | apply Kd.R_drew)); exact Kd.R_mono HO150.out (fun _ hk => ⟨trivial, hk⟩)) hg hat)
             have n2_ := Aside0.mk (hb)
             have n3_ := Aside0.mk (ho)
             clear HO144
             clear HO150
             clear HB
             clear HO147
             have HO144 := n0_
             have HO150 := n1_
             have HB := n2_
             have HO153 := n3_
             clear n0_ n1_ n2_ n3_
             clear ho hb hg hat
             refine hK.out _ _ ⟨(ck_ HB.out hw141_0), (ck_ HB.out hw141_1), (ck_ HB.out hw141_2), (ck_ HB.out hw141_3), (ck_ HB.out hw141_4), (ck_ HB.out hw141_5), (ck_ HB.out hw141_6), (ck_ HB.out hw141_7)⟩ (fun hHeld => ?_)
             clear hK K
             refine norm_ (a' := ?_) ?_ ?_
             rotate_left
             · show Act.put _ (some 31) _ = _
               simp only [Act.put, List.setIfInBounds_toArray, List.set_cons_zero, List.set_cons_succ, i64_w, i32_w]
               rfl
             exact norm_ (by first | (simp only [putAll, Act.put, List.setIfInBounds_toArray, List.set_cons_zero, List.set_cons_succ]; done) | (simp only [putAll, Act.put, List.setIfInBounds_toArray, List.set_cons_zero, List.set_cons_succ]; rfl)) (hJ5_6_13_14 (v143, v146, .slice Ao22 y148.length co22, v152) _ ⟨hHeld, (V_up HO144.out), (by (with_reducible repeat (first | apply Kd.R_alloc | apply Kd.R_drewN | apply Kd.R_drew)); exact Kd.R_mono HO150.out (fun _ hk => hk.2)), (R_up HO153.out), (HB_up HB.out)⟩)
           · skip
             refine Kd.V_conv_step _ 5 (by rfl) (N' := 36) rfl 9 24 _ rfl Try.underlying9 Try.underlying24 Try.underlying5 ((rd_T37 l0 0).f2) rfl (by have := LMc6.out; omega) (Below.refl _ _) (Nat.le_refl _) ?_
             intro v155 w21 ho22 hb hg_ hnew_
             clear hg_ hnew_
             (first | rw [← Ny154.out] at ho22 | (simp only [Int.reduceToNat] at ho22; rw [← Ny154.out] at ho22))
             have n0_ := Aside0.mk (Kd.V_below (V_up HO144.out) hb)
             have n1_ := Aside0.mk (Kd.R_below (R_up HO147.out) hb)
             have n2_ := Aside0.mk (Kd.R_below (R_up HO150.out) hb)
             have n3_ := Aside0.mk (Kd.V_lower (Kd.V_mono (ok' := fun k_ => some k_ ≠ (v146 : Value).ownBlock ∧ some k_ ≠ (v149 : Value).ownBlock) ho22 (fun k_ hk_ => ⟨(Kd.fresh' (Kd.R_lt (R_up HO147.out)) k_ hk_), (Kd.fresh' (Kd.R_lt (R_up HO150.out)) k_ hk_)⟩)) (below_size (HB_up HB.out)))
             have n4_ := Aside0.mk (below_step (HB_up HB.out) hb)
             clear HO144
             clear HO147
             clear HO150
             clear HB
             have HO144 := n0_
             have HO147 := n1_
             have HO150 := n2_
             have HO156 := n3_
             have HB := n4_
             clear n0_ n1_ n2_ n3_ n4_
             clear hb ho22
             refine hK.out _ _ ⟨(ck_ HB.out hw141_0), (ck_ HB.out hw141_1), (ck_ HB.out hw141_2), (ck_ HB.out hw141_3), (ck_ HB.out hw141_4), (ck_ HB.out hw141_5), (ck_ HB.out hw141_6), (ck_ HB.out hw141_7)⟩ (fun hHeld => ?_)
             clear hK K
             refine norm_ (a' := ?_) ?_ ?_
             rotate_left
             · show Act.put _ (some 36) _ = _
               simp only [Act.put, List.setIfInBounds_toArray, List.set_cons_zero, List.set_cons_succ, i64_w, i32_w]
               rfl
             exact norm_ (by first | (simp only [putAll, Act.put, List.setIfInBounds_toArray, List.set_cons_zero, List.set_cons_succ]; done) | (simp only [putAll, Act.put, List.setIfInBounds_toArray, List.set_cons_zero, List.set_cons_succ]; rfl)) (hJ5_6_13_19 (v143, v146, v149, v155) _ ⟨hHeld, (V_up HO144.out), (R_up HO147.out), (R_up HO150.out), (V_up HO156.out), (HB_up HB.out)⟩)
       · skip
         rintro ⟨v143, v146, v149, v155⟩ w22 ⟨hS_, h0_, h1_, h2_, h3_, h4_⟩
         have n0_ : Aside0 (Kd.V (Kd.int .u8) 5 w22 w.heap.size (fun k_ => some k_ ≠ (v146 : Value).ownBlock ∧ some k_ ≠ (v149 : Value).ownBlock) v143 y142) := ⟨h0_⟩
         have n1_ : Aside0 (Kd.R (Kd.int .u8) 5 w22 w.heap.size (fun k_ => some k_ ≠ (v149 : Value).ownBlock) v146 y145) := ⟨h1_⟩
         have n2_ : Aside0 (Kd.R (Kd.int .u8) 5 w22 w.heap.size (fun k_ => some k_ ≠ (v146 : Value).ownBlock) v149 y148) := ⟨h2_⟩
         have n3_ : Aside0 (Kd.V (Kd.int .u8) 5 w22 w.heap.size (fun k_ => some k_ ≠ (v146 : Value).ownBlock ∧ some k_ ≠ (v149 : Value).ownBlock) v155 y154) := ⟨h3_⟩
         have n4_ : Aside0 (Below w.heap.size w w22) := ⟨h4_⟩
         clear HO140
         clear HB
         clear h0_ h1_ h2_ h3_ h4_
         have HO144 := n0_
         have HO147 := n1_
         have HO150 := n2_
         have HO156 := n3_
         have HB := n4_
         clear n0_ n1_ n2_ n3_ n4_
         have hHeld : w22.cell? ad137 = some (.int .i64 ((rd_T37 l0 0).f0)) ∧ w22.cell? ⟨ad137.block, ad137.off + 1, none⟩ = some (.string ((rd_T37 l0 0).f1)) ∧ w22.cell? ⟨ad137.block, ad137.off + 2, none⟩ = some (.string ((rd_T37 l0 0).f2)) ∧ w22.cell? ⟨ad137.block, ad137.off + 3, none⟩ = some (.slice A141_3 ((rd_T37 l0 0).f3).length c141_3) ∧ w22.cell? ⟨ad137.block, ad137.off + 4, none⟩ = some (.int .i64 ((rd_T37 l0 0).f4)) ∧ w22.cell? ⟨ad137.block, ad137.off + 5, none⟩ = some (.int .i64 ((rd_T37 l0 0).f5)) ∧ w22.cell? ⟨ad137.block, ad137.off + 6, none⟩ = some (.int .i64 ((rd_T37 l0 0).f6)) ∧ w22.cell? ⟨ad137.block, ad137.off + 7, none⟩ = some (.slice A141_7 ((rd_T37 l0 0).f7).length c141_7) := hS_
         refine norm_ (a' := ?_) ?_ ?_
         rotate_left
         · simp only [putAll, Act.put, List.setIfInBounds_toArray, List.set_cons_zero, List.set_cons_succ]
           rfl
         refine one_ (i := 14) (N := some 31) #[true, true, true, true, true, true, true, true, true, true, true, true, true, true, true, true, true, true, true, true, false, false] rfl rfl (one_of HT_.out (by kernel_rfl)) (by decide) (fun K hK => ?_)
         obtain ⟨Ao24, co24, eo24⟩ := Kd.R_slice HO150.out
         (first | subst eo24 | (injection eo24 with f1_ f2_ f3_; have f4_ := f1_.symm; have f5_ := f3_.symm; clear f1_ f2_ f3_; subst f4_; subst f5_))
         refine Kd.R_append_rows_step (Kd.int .u8) (w0 := w) w.heap.size (by rfl) (.tmp 23) (.tmp 30) 24 5 (.int .u8 0) 1 rfl Try.underlying24 info5 rfl (by decide) (by omega) v146 y145 y148 _ _ _ (fun k_ => some k_ ≠ (.slice Ao24 y148.length co24 : Value).ownBlock) (fun _ => False) rfl rfl ?aO ?aR (fun _ _ h => h) (fun _ h => h.elim) ?aF ?aB ?aS ?aL ?_
         (case aR => exact C_up (Kd.R_reads' HO150.out).2.2)
         (case aB => exact (HB_up HB.out))
         (case aF => exact (fun k_ hk => Kd.fresh' (Kd.R_lt (R_up HO150.out)) k_ hk))
         (case aO => exact (R_up HO147.out))
         (case aS => exact (below_size (HB_up HB.out)))
         (case aL => have := LMc5.out; omega)
         intro v152 w23 ho hb hg hat
         rw [← Ny151.out] at ho
         have n0_ := Aside0.mk (Kd.V_afterv (ok := (fun k_ => some k_ ≠ (.slice Ao24 y148.length co24 : Value).ownBlock)) (by (with_reducible repeat (first | apply Kd.V_alloc | apply Kd.V_drewN | apply Kd.V_drew)); exact Kd.V_mono HO144.out (fun _ hk => ⟨hk.2, hk.1⟩)) hg hat)
         have n1_ := Aside0.mk (Kd.R_after (ok := (fun _ => True)) (by (with_reducible repeat (first | apply Kd.R_alloc | apply Kd.R_drewN | apply Kd.R_drew)); exact Kd.R_mono HO150.out (fun _ hk => ⟨trivial, hk⟩)) hg hat)
         have n2_ := Aside0.mk (Kd.V_afterv (ok := (fun k_ => some k_ ≠ (.slice Ao24 y148.length co24 : Value).ownBlock)) (by (with_reducible repeat (first | apply Kd.V_alloc | apply Kd.V_drewN | apply Kd.V_drew)); exact Kd.V_mono HO156.out (fun _ hk => ⟨hk.2, hk.1⟩)) hg hat)
         have n3_ := Aside0.mk (hb)
         have n4_ := Aside0.mk (ho)
         clear HO144
         clear HO150
         clear HO156
         clear HB
         clear HO147
         have HO144 := n0_
         have HO150 := n1_
         have HO156 := n2_
         have HB := n3_
         have HO153 := n4_
         clear n0_ n1_ n2_ n3_ n4_
         clear ho hb hg hat
         refine hK.out _ _ ⟨(ck_ HB.out hw141_0), (ck_ HB.out hw141_1), (ck_ HB.out hw141_2), (ck_ HB.out hw141_3), (ck_ HB.out hw141_4), (ck_ HB.out hw141_5), (ck_ HB.out hw141_6), (ck_ HB.out hw141_7)⟩ (fun hHeld => ?_)
         clear hK K
         refine norm_ (a' := ?_) ?_ ?_
         rotate_left
         · show Act.put _ (some 31) _ = _
           simp only [Act.put, List.setIfInBounds_toArray, List.set_cons_zero, List.set_cons_succ, i64_w, i32_w]
           rfl
         exact norm_ (by first | (simp only [putAll, Act.put, List.setIfInBounds_toArray, List.set_cons_zero, List.set_cons_succ]; done) | (simp only [putAll, Act.put, List.setIfInBounds_toArray, List.set_cons_zero, List.set_cons_succ]; rfl)) (hJ5_6_13_14_19 (v143, v146, .slice Ao24 y148.length co24, v152, v155) _ ⟨hHeld, (V_up HO144.out), (by (with_reducible repeat (first | apply Kd.R_alloc | apply Kd.R_drewN | apply Kd.R_drew)); exact Kd.R_mono HO150.out (fun _ hk => hk.2)), (R_up HO153.out), (V_up HO156.out), (HB_up HB.out)⟩)
     · skip
       rintro ⟨v143, v146, v149, v152⟩ w22 ⟨hS_, h0_, h1_, h2_, h3_⟩
       have n0_ : Aside0 (Kd.V (Kd.int .u8) 5 w22 w.heap.size (fun k_ => some k_ ≠ (v149 : Value).ownBlock ∧ some k_ ≠ (v152 : Value).ownBlock) v143 y142) := ⟨h0_⟩
       have n1_ : Aside0 (Kd.R (Kd.int .u8) 5 w22 w.heap.size (fun k_ => some k_ ≠ (v152 : Value).ownBlock) v149 y148) := ⟨h1_⟩
       have n2_ : Aside0 (Kd.R (Kd.int .u8) 5 w22 w.heap.size (fun k_ => some k_ ≠ (v149 : Value).ownBlock) v152 y151) := ⟨h2_⟩
       have n3_ : Aside0 (Below w.heap.size w w22) := ⟨h3_⟩
       clear HO140
       clear HB
       clear h0_ h1_ h2_ h3_
       have HO144 := n0_
       have HO150 := n1_
       have HO153 := n2_
       have HB := n3_
       clear n0_ n1_ n2_ n3_
       have hHeld : w22.cell? ad137 = some (.int .i64 ((rd_T37 l0 0).f0)) ∧ w22.cell? ⟨ad137.block, ad137.off + 1, none⟩ = some (.string ((rd_T37 l0 0).f1)) ∧ w22.cell? ⟨ad137.block, ad137.off + 2, none⟩ = some (.string ((rd_T37 l0 0).f2)) ∧ w22.cell? ⟨ad137.block, ad137.off + 3, none⟩ = some (.slice A141_3 ((rd_T37 l0 0).f3).length c141_3) ∧ w22.cell? ⟨ad137.block, ad137.off + 4, none⟩ = some (.int .i64 ((rd_T37 l0 0).f4)) ∧ w22.cell? ⟨ad137.block, ad137.off + 5, none⟩ = some (.int .i64 ((rd_T37 l0 0).f5)) ∧ w22.cell? ⟨ad137.block, ad137.off + 6, none⟩ = some (.int .i64 ((rd_T37 l0 0).f6)) ∧ w22.cell? ⟨ad137.block, ad137.off + 7, none⟩ = some (.slice A141_7 ((rd_T37 l0 0).f7).length c141_7) := hS_
       refine norm_ (a' := ?_) ?_ ?_
       rotate_left
       · simp only [putAll, Act.put, List.setIfInBounds_toArray, List.set_cons_zero, List.set_cons_succ]
         rfl
       refine one_ (i := 19) (N := some 36) #[true, true, true, true, true, true, true, true, true, true, true, true, true, true, true, true, true, true, true, true, false, false] rfl rfl (one_of HT_.out (by kernel_rfl)) (by decide) (fun K hK => ?_)
       refine Kd.V_conv_step _ 5 (by rfl) (N' := 36) rfl 9 24 _ rfl Try.underlying9 Try.underlying24 Try.underlying5 ((rd_T37 l0 0).f2) rfl (by have := LMc6.out; omega) (Below.refl _ _) (Nat.le_refl _) ?_
       intro v155 w23 ho24 hb hg_ hnew_
       clear hg_ hnew_
       (first | rw [← Ny154.out] at ho24 | (simp only [Int.reduceToNat] at ho24; rw [← Ny154.out] at ho24))
       have n0_ := Aside0.mk (Kd.V_below (V_up HO144.out) hb)
       have n1_ := Aside0.mk (Kd.R_below (R_up HO150.out) hb)
       have n2_ := Aside0.mk (Kd.R_below (R_up HO153.out) hb)
       have n3_ := Aside0.mk (Kd.V_lower (Kd.V_mono (ok' := fun k_ => some k_ ≠ (v149 : Value).ownBlock ∧ some k_ ≠ (v152 : Value).ownBlock) ho24 (fun k_ hk_ => ⟨(Kd.fresh' (Kd.R_lt (R_up HO150.out)) k_ hk_), (Kd.fresh' (Kd.R_lt (R_up HO153.out)) k_ hk_)⟩)) (below_size (HB_up HB.out)))
       have n4_ := Aside0.mk (below_step (HB_up HB.out) hb)
       clear HO144
       clear HO150
       clear HO153
       clear HB
       have HO144 := n0_
       have HO150 := n1_
       have HO153 := n2_
       have HO156 := n3_
       have HB := n4_
       clear n0_ n1_ n2_ n3_ n4_
       clear hb ho24
       refine hK.out _ _ ⟨(ck_ HB.out hw141_0), (ck_ HB.out hw141_1), (ck_ HB.out hw141_2), (ck_ HB.out hw141_3), (ck_ HB.out hw141_4), (ck_ HB.out hw141_5), (ck_ HB.out hw141_6), (ck_ HB.out hw141_7)⟩ (fun hHeld => ?_)
       clear hK K
       refine norm_ (a' := ?_) ?_ ?_
       rotate_left
       · show Act.put _ (some 36) _ = _
         simp only [Act.put, List.setIfInBounds_toArray, List.set_cons_zero, List.set_cons_succ, i64_w, i32_w]
         rfl
       exact norm_ (by first | (simp only [putAll, Act.put, List.setIfInBounds_toArray, List.set_cons_zero, List.set_cons_succ]; done) | (simp only [putAll, Act.put, List.setIfInBounds_toArray, List.set_cons_zero, List.set_cons_succ]; rfl)) (hJ5_6_13_14_19 (v143, v146, v149, v152, v155) _ ⟨hHeld, (V_up HO144.out), (R_up HO150.out), (R_up HO153.out), (V_up HO156.out), (HB_up HB.out)⟩)
   rintro ⟨v143, v146, v149, v152, v155⟩ w24 ⟨hS_, h0_, h1_, h2_, h3_, h4_⟩
   have n0_ : Aside0 (Kd.V (Kd.int .u8) 5 w24 w.heap.size (fun k_ => some k_ ≠ (v149 : Value).ownBlock ∧ some k_ ≠ (v152 : Value).ownBlock) v143 y142) := ⟨h0_⟩
   have n1_ : Aside0 (Kd.R (Kd.int .u8) 5 w24 w.heap.size (fun k_ => some k_ ≠ (v152 : Value).ownBlock) v149 y148) := ⟨h1_⟩
   have n2_ : Aside0 (Kd.R (Kd.int .u8) 5 w24 w.heap.size (fun k_ => some k_ ≠ (v149 : Value).ownBlock) v152 y151) := ⟨h2_⟩
   have n3_ : Aside0 (Kd.V (Kd.int .u8) 5 w24 w.heap.size (fun k_ => some k_ ≠ (v149 : Value).ownBlock ∧ some k_ ≠ (v152 : Value).ownBlock) v155 y154) := ⟨h3_⟩
   have n4_ : Aside0 (Below w.heap.size w w24) := ⟨h4_⟩
   clear HO140
   clear HB
   clear h0_ h1_ h2_ h3_ h4_
   have HO144 := n0_
   have HO150 := n1_
   have HO153 := n2_
   have HO156 := n3_
   have HB := n4_
   clear n0_ n1_ n2_ n3_ n4_
   have hHeld : w24.cell? ad137 = some (.int .i64 ((rd_T37 l0 0).f0)) ∧ w24.cell? ⟨ad137.block, ad137.off + 1, none⟩ = some (.string ((rd_T37 l0 0).f1)) ∧ w24.cell? ⟨ad137.block, ad137.off + 2, none⟩ = some (.string ((rd_T37 l0 0).f2)) ∧ w24.cell? ⟨ad137.block, ad137.off + 3, none⟩ = some (.slice A141_3 ((rd_T37 l0 0).f3).length c141_3) ∧ w24.cell? ⟨ad137.block, ad137.off + 4, none⟩ = some (.int .i64 ((rd_T37 l0 0).f4)) ∧ w24.cell? ⟨ad137.block, ad137.off + 5, none⟩ = some (.int .i64 ((rd_T37 l0 0).f5)) ∧ w24.cell? ⟨ad137.block, ad137.off + 6, none⟩ = some (.int .i64 ((rd_T37 l0 0).f6)) ∧ w24.cell? ⟨ad137.block, ad137.off + 7, none⟩ = some (.slice A141_7 ((rd_T37 l0 0).f7).length c141_7) := hS_
   obtain ⟨Ao26, co26, eo26⟩ := Kd.V_slice HO156.out
   (first | subst eo26 | (injection eo26 with f1_ f2_ f3_; have f4_ := f1_.symm; have f5_ := f3_.symm; clear f1_ f2_ f3_; subst f4_; subst f5_))
   refine norm_ (a' := ?_) ?_ ?_
   rotate_left
   · simp only [putAll, Act.put, List.setIfInBounds_toArray, List.set_cons_zero, List.set_cons_succ]
     rfl
   refine one_ (i := 20) (N := some 37) #[true, true, true, true, true, true, true, true, true, true, true, true, true, true, true, true, true, true, true, true, true, false] rfl rfl (one_of HT_.out (by kernel_rfl)) (by decide) (fun K hK => ?_)
   refine Kd.R_append_rows_step (Kd.int .u8) (w0 := w) w.heap.size (by rfl) (.tmp 31) (.tmp 36) 24 5 (.int .u8 0) 1 rfl Try.underlying24 info5 rfl (by decide) (by omega) v152 y151 y154 _ _ _ (fun k_ => some k_ ≠ (v149 : Value).ownBlock) (fun _ => False) rfl rfl ?aO ?aR (fun _ _ h => h) (fun _ h => h.elim) ?aF ?aB ?aS ?aL ?_
   (case aR => exact C_up (Kd.V_reads' HO156.out).2.2)
   (case aB => exact (HB_up HB.out))
   (case aF => exact (fun k_ hk => Kd.fresh' (Kd.R_lt (R_up HO150.out)) k_ hk))
   (case aO => exact (R_up HO153.out))
   (case aS => exact (below_size (HB_up HB.out)))
   (case aL => have := LMc7.out; omega)
   intro v158 w25 ho hb hg hat
   rw [← Ny157.out] at ho
   have n0_ := Aside0.mk (Kd.V_afterv (ok := (fun k_ => some k_ ≠ (v149 : Value).ownBlock)) (V_up HO144.out) hg hat)
   have n1_ := Aside0.mk (Kd.R_after (ok := (fun _ => True)) (by (with_reducible repeat (first | apply Kd.R_alloc | apply Kd.R_drewN | apply Kd.R_drew)); exact Kd.R_mono HO150.out (fun _ hk => ⟨trivial, hk⟩)) hg hat)
   have n2_ := Aside0.mk (Kd.V_afterv (ok := (fun k_ => some k_ ≠ (v149 : Value).ownBlock)) (V_up HO156.out) hg hat)
   have n3_ := Aside0.mk (hb)
   have n4_ := Aside0.mk (ho)
   clear HO144
   clear HO150
   clear HO156
   clear HB
   clear HO153
   have HO144 := n0_
   have HO150 := n1_
   have HO156 := n2_
   have HB := n3_
   have HO159 := n4_
   clear n0_ n1_ n2_ n3_ n4_
   clear ho hb hg hat
   refine hK.out _ _ ⟨(ck_ HB.out hw141_0), (ck_ HB.out hw141_1), (ck_ HB.out hw141_2), (ck_ HB.out hw141_3), (ck_ HB.out hw141_4), (ck_ HB.out hw141_5), (ck_ HB.out hw141_6), (ck_ HB.out hw141_7)⟩ (fun hHeld => ?_)
   clear hK K
   refine norm_ (a' := ?_) ?_ ?_
   rotate_left
   · show Act.put _ (some 37) _ = _
     simp only [Act.put, List.setIfInBounds_toArray, List.set_cons_zero, List.set_cons_succ, i64_w, i32_w]
     rfl
   refine pure_ (i := 21) (N := some 3) (v := ?_) (a' := ?_) #[true, true, true, true, true, true, true, true, true, true, true, true, true, true, true, true, true, true, true, true, true, true] rfl rfl (any_of HT_.out (by kernel_rfl)) (fun _ _ _ h => h) (Or.inl ⟨by rfl, ?_⟩) ?_ ?_; rotate_left
   · intro w'; go_simp; all_goals (first | with_reducible rfl | (simp [Instr.field, go_sem]; rfl))
   rotate_left
   · simp only [Act.put, List.setIfInBounds_toArray, List.set_cons_zero, List.set_cons_succ, i64_w, i32_w]; rfl
   refine done_ (done_of HT_.out (by kernel_rfl)) ?_
   have p160 : 0 ≤ (0 : Int) := (by omega)
   have q160 : 0 < (l0.length : Int) := of_decide_eq_true (by first | (with_reducible assumption) | assumption)
   obtain ⟨ad160, A160_3, c160_3, A160_7, c160_7, e160, hx160_0, hx160_1, hx160_2, hx160_3, hx160_4, hx160_5, hx160_6, hx160_7, hl160_3, hi160_3, hl160_7, hi160_7⟩ := at_T37 HR0.out 0 p160 q160
   obtain rfl : ad137 = ad160 := (by injection e160)
   have qi160 : (0 < l0.length) = True := eq_true (by omega)
   (try simp only [Int.toNat_zero, Nat.zero_mul, Addr.add_zero'] at hx160_0 hx160_1 hx160_2 hx160_3 hx160_4 hx160_5 hx160_6 hx160_7)
   replace hx160_0 := ck_ HB.out hx160_0
   replace hx160_1 := ck_ HB.out hx160_1
   replace hx160_2 := ck_ HB.out hx160_2
   replace hx160_3 := ck_ HB.out hx160_3
   replace hx160_4 := ck_ HB.out hx160_4
   replace hx160_5 := ck_ HB.out hx160_5
   replace hx160_6 := ck_ HB.out hx160_6
   replace hx160_7 := ck_ HB.out hx160_7
   have HR160_3 := Aside0.mk hi160_3
   have HC160_3 := Aside0.mk hl160_3
   clear hi160_3 hl160_3
   have HR160_7 := Aside0.mk hi160_7
   have HC160_7 := Aside0.mk hl160_7
   clear hi160_7 hl160_7
   replace p160 := eq_true p160
   replace q160 := eq_true q160
   try go_wp2_with (first | ((with_reducible refine gate_dst (N := 45) rfl ?_); refine Kd.R_lit (Kd.int .u8) _ 5 ?hg (N := 45) ?hd (xs := ([((((rd_T37 l0 0).f3).length : Int)) % 256] : List Int)) (inner := [.int .u8 (((((rd_T37 l0 0).f3).length : Int)) % 256)]) (ok := fun _ => True) (okp := fun _ => True) ?hr ?hp (fun _ hk => hk) trivial (Below.refl _ _) (Nat.le_refl _) (by simp) ?_; (case hd => rfl); (case hg => rfl); (case hr => first | (go_simp; done) | (go_simp; rfl)); (case hp => exact (Reps.one (show Kd.M (Kd.int .u8) _ _ _ (((((rd_T37 l0 0).f3).length : Int)) % 256) [.int .u8 (((((rd_T37 l0 0).f3).length : Int)) % 256)] from rfl) (Reps.none _ _))); intro v162 w27 ho28 hb hg_ hnew_; clear hg_ hnew_; (first | rw [← Ny161.out] at ho28 | (simp only [Int.reduceToNat] at ho28; rw [← Ny161.out] at ho28)); have n0_ := Aside0.mk (Kd.V_elder' (V_up HO144.out) (Kd.R_base ho28) hb); have n1_ := Aside0.mk (Kd.R_elder' (R_up HO150.out) (Kd.R_base ho28) hb); have n2_ := Aside0.mk (Kd.V_elder' (V_up HO156.out) (Kd.R_base ho28) hb); have n3_ := Aside0.mk (Kd.R_elder' (R_up HO159.out) (Kd.R_base ho28) hb); have n4_ := Aside0.mk (Kd.R_lower (Kd.R_new' (Kd.R_new' ho28 (Kd.R_lt (R_up HO150.out))) (Kd.R_lt (R_up HO159.out))) (below_size (HB_up HB.out))); have n5_ := Aside0.mk (below_step (HB_up HB.out) hb); clear HO144; clear HO150; clear HO156; clear HO159; clear HB; have HO144 := n0_; have HO150 := n1_; have HO156 := n2_; have HO159 := n3_; have HO163 := n4_; have HB := n5_; clear n0_ n1_ n2_ n3_ n4_ n5_; clear hb ho28; obtain ⟨Ao30, co30, eo30⟩ := Kd.R_slice HO163.out; subst eo30) | ((with_reducible refine gate_builtin (b := .append) (xs := #[.tmp 38, .tmp 45]) rfl ?_); at_builtin; refine Kd.R_append_rows (Kd.int .u8) (w0 := w) w.heap.size rfl (.tmp 38) (.tmp 45) 24 5 (.int .u8 0) 1 rfl Try.underlying24 info5 rfl (by decide) (by omega) v158 y157 y161 _ _ _ (fun k_ => some k_ ≠ (v149 : Value).ownBlock ∧ some k_ ≠ (.slice Ao30 y161.length co30 : Value).ownBlock) (fun _ => False) rfl rfl ?aO ?aR (fun _ _ h => h) (fun _ h => h.elim) ?aF ?aB ?aS ?aL ?_; (case aR => exact C_up (Kd.R_reads' HO163.out).2.2); (case aB => exact (HB_up HB.out)); (case aF => exact (fun k_ hk => ⟨Kd.fresh' (Kd.R_lt (R_up HO150.out)) k_ hk, Kd.fresh' (Kd.R_lt (R_up HO163.out)) k_ hk⟩)); (case aO => exact (R_up HO159.out)); (case aS => exact (below_size (HB_up HB.out))); (case aL => have := LMc8.out; omega); intro v165 w29 ho hb hg hat; rw [← Ny164.out] at ho; have n0_ := Aside0.mk (Kd.V_afterv (ok := (fun k_ => some k_ ≠ (v149 : Value).ownBlock ∧ some k_ ≠ (.slice Ao30 y161.length co30 : Value).ownBlock)) (by (with_reducible repeat (first | apply Kd.V_alloc | apply Kd.V_drewN | apply Kd.V_drew)); exact Kd.V_mono HO144.out (fun _ hk => ⟨⟨hk.1.1, hk.2⟩, hk.1.2⟩)) hg hat); have n1_ := Aside0.mk (Kd.R_after (ok := (fun k_ => some k_ ≠ (.slice Ao30 y161.length co30 : Value).ownBlock)) (by (with_reducible repeat (first | apply Kd.R_alloc | apply Kd.R_drewN | apply Kd.R_drew)); exact Kd.R_mono HO150.out (fun _ hk => ⟨hk.2, hk.1.2⟩)) hg hat); have n2_ := Aside0.mk (Kd.V_afterv (ok := (fun k_ => some k_ ≠ (v149 : Value).ownBlock ∧ some k_ ≠ (.slice Ao30 y161.length co30 : Value).ownBlock)) (by (with_reducible repeat (first | apply Kd.V_alloc | apply Kd.V_drewN | apply Kd.V_drew)); exact Kd.V_mono HO156.out (fun _ hk => ⟨⟨hk.1.1, hk.2⟩, hk.1.2⟩)) hg hat); have n3_ := Aside0.mk (Kd.R_after (ok := (fun k_ => some k_ ≠ (v149 : Value).ownBlock)) (by (with_reducible repeat (first | apply Kd.R_alloc | apply Kd.R_drewN | apply Kd.R_drew)); exact Kd.R_mono HO163.out (fun _ hk => ⟨hk.1.2, hk.2⟩)) hg hat); have n4_ := Aside0.mk (hb); have n5_ := Aside0.mk (ho); clear HO144; clear HO150; clear HO156; clear HO163; clear HB; clear HO159; have HO144 := n0_; have HO150 := n1_; have HO156 := n2_; have HO163 := n3_; have HB := n4_; have HO166 := n5_; clear n0_ n1_ n2_ n3_ n4_ n5_; clear ho hb hg hat))
   go_loopg [3, 4] k (fun kq v3 v4 w' => ∃ (x3_1 : List Int) (x4_1 : Int), v4 = .int .i64 x4_1 ∧ Aside0 (spec_l9Pack.l0 kq l0 x3_1 x4_1 = some r) ∧ Aside0 (kq ≤ k) ∧ Aside0 (Kd.R (Kd.int .u8) 5 w' w.heap.size (fun _ => True) v3 x3_1) ∧ Aside0 (Below w.heap.size w w'))
   case atStart => exact ⟨(y164), (0), (by first | rfl | (simp; done) | (simp [*]; done) | (simp; generalize ByteArray.toList _ = zq_; cases zq_ <;> rfl)), H', ⟨Nat.le_refl _⟩, ⟨by (with_reducible repeat (first | apply Kd.R_alloc | apply Kd.R_drewN | apply Kd.R_drew)); exact Kd.R_mono HO166.out (fun _ hk => trivial)⟩, ⟨by repeat (first | (with_reducible first | exact HB.out | apply below_alloc | apply pw_below_drewN | apply below_drew1) | exact HB.out)⟩⟩
   case round =>
    clear H'
    try clear q1
    try clear hx1
    try clear qi1
    try clear c4
    try clear c5
    try clear c6
    try clear c7
    try clear c8
    try clear q16
    try clear hx16
    try clear qi16
    try clear hx160_0
    try clear hx160_1
    try clear hx160_2
    try clear hx160_3
    try clear hx160_4
    try clear hx160_5
    try clear hx160_6
    try clear hx160_7
    try clear p160
    try clear q160
    obtain ⟨x3_1, x4_1, rfl, HA, HK1, HO_3, HB⟩ := hrel
    cases gk with
    | zero => exact absurd HA.out (by simp [spec_l9Pack.l0])
    | succ k1 =>
      have H := HA.out
      clear HA
      simp only [spec_l9Pack.l0] at H
      by_cases c31 : 0 < (l0.length : Int)
      case neg => rw [if_neg c31] at H; exact absurd H (by simp)
      rw [if_pos c31] at H
      have c31b0 : decide (0 < (l0.length : Int)) = true := decide_eq_true c31
      have c31b1 : decide (0 < l0.length) = true := decide_eq_true (by omega)
      clear c31
      by_cases c32 : x4_1 < (((rd_T37 l0 0).f3).length : Int)
      · rw [if_pos c32] at H
        have c32b0 : decide (x4_1 < (((rd_T37 l0 0).f3).length : Int)) = true := decide_eq_true c32
        clear c32
        by_cases c33 : 0 ≤ x4_1
        case neg => rw [if_neg c33] at H; exact absurd H (by simp)
        rw [if_pos c33] at H
        have c33b0 : decide (0 ≤ x4_1) = true := decide_eq_true c33
        clear c33
        replace H := Option.bind_eq_some_iff.mp H
        obtain ⟨t170, A340, H⟩ := H
        (try dsimp only at H)
        have A34 := Aside0.mk A340
        clear A340
        by_cases c35 : x3_1.length + t170.length < 140737488355328
        case neg => rw [if_neg c35] at H; exact absurd H (by simp)
        rw [if_pos c35] at H
        have LMc35 := Aside0.mk c35
        clear c35
        obtain ⟨y173, hy173⟩ : ∃ y_ : List Int, y_ = (x3_1 ++ t170) := ⟨_, rfl⟩
        replace H : (spec_l9Pack.l0 k1 l0 y173 (wrap64 (x4_1 + 1))) = some r := by first | (rw [hy173]; with_reducible exact H) | (have H2_ := (Option.bind_some _ _).symm.trans H; rw [hy173]; with_reducible exact H2_) | (have H2_ := (Option.bind_some _ _).symm.trans H; with_reducible exact H2_) | with_reducible exact H | (rw [hy173]; exact H) | exact H
        have Ny173 := Aside0.mk hy173
        clear hy173
        have H' := Aside0.mk H
        clear H
        have p167 : 0 ≤ (0 : Int) := (by omega)
        have q167 : 0 < (l0.length : Int) := of_decide_eq_true (by first | (with_reducible assumption) | assumption)
        obtain ⟨ad167, A167_3, c167_3, A167_7, c167_7, e167, hx167_0, hx167_1, hx167_2, hx167_3, hx167_4, hx167_5, hx167_6, hx167_7, hl167_3, hi167_3, hl167_7, hi167_7⟩ := at_T37 HR0.out 0 p167 q167
        obtain rfl : ad137 = ad167 := (by injection e167)
        have qi167 : (0 < l0.length) = True := eq_true (by omega)
        (try simp only [Int.toNat_zero, Nat.zero_mul, Addr.add_zero'] at hx167_0 hx167_1 hx167_2 hx167_3 hx167_4 hx167_5 hx167_6 hx167_7)
        replace hx167_0 := ck_ HB.out hx167_0
        replace hx167_1 := ck_ HB.out hx167_1
        replace hx167_2 := ck_ HB.out hx167_2
        replace hx167_3 := ck_ HB.out hx167_3
        replace hx167_4 := ck_ HB.out hx167_4
        replace hx167_5 := ck_ HB.out hx167_5
        replace hx167_6 := ck_ HB.out hx167_6
        replace hx167_7 := ck_ HB.out hx167_7
        have HR167_3 := Aside0.mk hi167_3
        have HC167_3 := Aside0.mk hl167_3
        clear hi167_3 hl167_3
        have HR167_7 := Aside0.mk hi167_7
        have HC167_7 := Aside0.mk hl167_7
        clear hi167_7 hl167_7
        replace p167 := eq_true p167
        replace q167 := eq_true q167
        (try clear hx160_0 hx160_1 hx160_2 hx160_3 hx160_4 hx160_5 hx160_6 hx160_7)
        have p168 : 0 ≤ (0 : Int) := (by omega)
        have q168 : 0 < (l0.length : Int) := of_decide_eq_true (by first | (with_reducible assumption) | assumption)
        obtain ⟨ad168, A168_3, c168_3, A168_7, c168_7, e168, hx168_0, hx168_1, hx168_2, hx168_3, hx168_4, hx168_5, hx168_6, hx168_7, hl168_3, hi168_3, hl168_7, hi168_7⟩ := at_T37 HR0.out 0 p168 q168
        obtain rfl : ad137 = ad168 := (by injection e168)
        have qi168 : (0 < l0.length) = True := eq_true (by omega)
        (try simp only [Int.toNat_zero, Nat.zero_mul, Addr.add_zero'] at hx168_0 hx168_1 hx168_2 hx168_3 hx168_4 hx168_5 hx168_6 hx168_7)
        replace hx168_0 := ck_ HB.out hx168_0
        replace hx168_1 := ck_ HB.out hx168_1
        replace hx168_2 := ck_ HB.out hx168_2
        replace hx168_3 := ck_ HB.out hx168_3
        replace hx168_4 := ck_ HB.out hx168_4
        replace hx168_5 := ck_ HB.out hx168_5
        replace hx168_6 := ck_ HB.out hx168_6
        replace hx168_7 := ck_ HB.out hx168_7
        have HR168_3 := Aside0.mk hi168_3
        have HC168_3 := Aside0.mk hl168_3
        clear hi168_3 hl168_3
        have HR168_7 := Aside0.mk hi168_7
        have HC168_7 := Aside0.mk hl168_7
        clear hi168_7 hl168_7
        replace p168 := eq_true p168
        replace q168 := eq_true q168
        have ea_ := Option.some.inj (hx167_3.symm.trans hx168_3)
        injection ea_ with ea_ en_ ec_
        subst ea_
        subst ec_
        clear en_
        have ea_ := Option.some.inj (hx167_7.symm.trans hx168_7)
        injection ea_ with ea_ en_ ec_
        subst ea_
        subst ec_
        clear en_
        (try clear hx168_0)
        (try clear hx168_1)
        (try clear hx168_2)
        (try clear hx168_3)
        (try clear hx168_4)
        (try clear hx168_5)
        (try clear hx168_6)
        (try clear hx168_7)
        (try clear qi168)
        have p169 : 0 ≤ (x4_1 : Int) := of_decide_eq_true (by first | (with_reducible assumption) | assumption)
        have q169 : x4_1 < (((rd_T37 l0 0).f3).length : Int) := of_decide_eq_true (by first | (with_reducible assumption) | assumption)
        obtain ⟨ad169, e169, hx169_0⟩ := Kd.at_int HR168_3.out x4_1 p169 q169
        cases e169
        replace hx169_0 := ck_ HB.out hx169_0
        replace p169 := eq_true p169
        replace q169 := eq_true q169
        go_wp2_with (first | ((with_reducible refine gate_callee (f := 73) rfl ?_); refine goesL_ (some 64) rfl rfl Try.func73 (by kernel_rfl) rfl #[.int .i64 (rd ((rd_T37 l0 0).f3) x4_1)] rfl (by (try simp only [List.map_toArray, List.map_cons, List.map_nil]); first | done | rfl | (simp only [List.length_drop, List.length_take]; rfl)) ?_; (with_reducible refine (spec_l9Two.calls (rd ((rd_T37 l0 0).f3) x4_1) t170 _ A34.out).mono ?_); rintro e w36 ⟨v171, rfl, ho0, hb⟩; refine ⟨_, rfl, ?_⟩; have n0_ := Aside0.mk (Kd.R_elder' (R_up HO_3.out) (Kd.R_base ho0) hb); have n1_ := Aside0.mk (Kd.R_lower (Kd.R_new' ho0 (Kd.R_lt (R_up HO_3.out))) (below_size (HB_up HB.out))); have n2_ := Aside0.mk (below_step (HB_up HB.out) hb); clear HO_3; clear HB; have HO_3 := n0_; have HO172 := n1_; have HB := n2_; clear n0_ n1_ n2_; (try clear hb); (try clear hb2); (try clear hk); (try clear hi); (try clear ho0); obtain ⟨Ao38, co38, eo38⟩ := Kd.R_slice HO172.out; subst eo38) | ((with_reducible refine gate_builtin (b := .append) (xs := #[.tmp 56, .tmp 64]) rfl ?_); at_builtin; refine Kd.R_append_rows (Kd.int .u8) (w0 := w) w.heap.size rfl (.tmp 56) (.tmp 64) 24 5 (.int .u8 0) 1 rfl Try.underlying24 info5 rfl (by decide) (by omega) u3 x3_1 t170 _ _ _ (fun k_ => some k_ ≠ (.slice Ao38 t170.length co38 : Value).ownBlock) (fun _ => False) rfl rfl ?aO ?aR (fun _ _ h => h) (fun _ h => h.elim) ?aF ?aB ?aS ?aL ?_; (case aR => exact C_up (Kd.R_reads' HO172.out).2.2); (case aB => exact (HB_up HB.out)); (case aF => exact (fun k_ hk => Kd.fresh' (Kd.R_lt (R_up HO172.out)) k_ hk)); (case aO => exact (by (with_reducible repeat (first | apply Kd.R_alloc | apply Kd.R_drewN | apply Kd.R_drew)); exact Kd.R_mono HO_3.out (fun _ hk => hk.2))); (case aS => exact (below_size (HB_up HB.out))); (case aL => have := LMc35.out; omega); intro v174 w37 ho hb hg hat; rw [← Ny173.out] at ho; have n0_ := Aside0.mk (Kd.R_after (ok := (fun _ => True)) (R_up HO172.out) hg hat); have n1_ := Aside0.mk (hb); have n2_ := Aside0.mk (ho); clear HO172; clear HB; clear HO_3; have HO172 := n0_; have HB := n1_; have HO175 := n2_; clear n0_ n1_ n2_; clear ho hb hg hat))
        go_roundg k1
        case measure => have := HK1.out; omega
        case rel => exact ⟨(y173), (wrap64 (x4_1 + 1)), (by first | rfl | (simp; done) | (simp [*]; done) | (simp; generalize ByteArray.toList _ = zq_; cases zq_ <;> rfl)), H', ⟨by have := HK1.out; omega⟩, ⟨by (with_reducible repeat (first | apply Kd.R_alloc | apply Kd.R_drewN | apply Kd.R_drew)); exact Kd.R_mono HO175.out (fun _ hk => trivial)⟩, ⟨by repeat (first | (with_reducible first | exact HB.out | apply below_alloc | apply pw_below_drewN | apply below_drew1) | exact HB.out)⟩⟩
      · rw [if_neg c32] at H
        have c32b0 : decide (x4_1 < (((rd_T37 l0 0).f3).length : Int)) = false := decide_eq_false c32
        clear c32
        obtain ⟨y177, hy177⟩ : ∃ y_ : List Int, y_ = (([((rd_T37 l0 0).f4) % 256, ((rd_T37 l0 0).f5) % 256] : List Int)) := ⟨_, rfl⟩
        replace H : (if x3_1.length + y177.length < 140737488355328 then ((some (x3_1 ++ y177 : List Int)).bind fun y180 => ((spec_l9Two.f ((rd_T37 l0 0).f6)).bind fun t183 => (if y180.length + t183.length < 140737488355328 then ((some (y180 ++ t183 : List Int)).bind fun y186 => ((spec_l9Two.f (((rd_T37 l0 0).f7).length : Int)).bind fun t190 => (if y186.length + t190.length < 140737488355328 then ((some (y186 ++ t190 : List Int)).bind fun y193 => (if y193.length + ((rd_T37 l0 0).f7).length < 140737488355328 then ((some (y193 ++ ((rd_T37 l0 0).f7) : List Int)).bind fun y196 => ((spec_l9Two.f (wrap64 ((y196.length : Int) + 2))).bind fun t199 => ((some (cpy y196 t199 : List Int)).bind fun y202 => ((spec_l9Sum.f k1 y202).bind fun t205 => ((spec_l9Two.f t205).bind fun t206 => (if y202.length + t206.length < 140737488355328 then (some (y202 ++ t206)) else (none))))))) else (none))) else (none)))) else (none)))) else (none)) = some r := by first | (rw [hy177]; with_reducible exact H) | (have H2_ := (Option.bind_some _ _).symm.trans H; rw [hy177]; with_reducible exact H2_) | (have H2_ := (Option.bind_some _ _).symm.trans H; with_reducible exact H2_) | with_reducible exact H | (rw [hy177]; exact H) | exact H
        have Ny177 := Aside0.mk hy177
        clear hy177
        by_cases c39 : x3_1.length + y177.length < 140737488355328
        case neg => rw [if_neg c39] at H; exact absurd H (by simp)
        rw [if_pos c39] at H
        have LMc39 := Aside0.mk c39
        clear c39
        obtain ⟨y180, hy180⟩ : ∃ y_ : List Int, y_ = (x3_1 ++ y177) := ⟨_, rfl⟩
        replace H : ((spec_l9Two.f ((rd_T37 l0 0).f6)).bind fun t183 => (if y180.length + t183.length < 140737488355328 then ((some (y180 ++ t183 : List Int)).bind fun y186 => ((spec_l9Two.f (((rd_T37 l0 0).f7).length : Int)).bind fun t190 => (if y186.length + t190.length < 140737488355328 then ((some (y186 ++ t190 : List Int)).bind fun y193 => (if y193.length + ((rd_T37 l0 0).f7).length < 140737488355328 then ((some (y193 ++ ((rd_T37 l0 0).f7) : List Int)).bind fun y196 => ((spec_l9Two.f (wrap64 ((y196.length : Int) + 2))).bind fun t199 => ((some (cpy y196 t199 : List Int)).bind fun y202 => ((spec_l9Sum.f k1 y202).bind fun t205 => ((spec_l9Two.f t205).bind fun t206 => (if y202.length + t206.length < 140737488355328 then (some (y202 ++ t206)) else (none))))))) else (none))) else (none)))) else (none))) = some r := by first | (rw [hy180]; with_reducible exact H) | (have H2_ := (Option.bind_some _ _).symm.trans H; rw [hy180]; with_reducible exact H2_) | (have H2_ := (Option.bind_some _ _).symm.trans H; with_reducible exact H2_) | with_reducible exact H | (rw [hy180]; exact H) | exact H
        have Ny180 := Aside0.mk hy180
        clear hy180
        replace H := Option.bind_eq_some_iff.mp H
        obtain ⟨t183, A400, H⟩ := H
        (try dsimp only at H)
        have A40 := Aside0.mk A400
        clear A400
        by_cases c41 : y180.length + t183.length < 140737488355328
        case neg => rw [if_neg c41] at H; exact absurd H (by simp)
        rw [if_pos c41] at H
        have LMc41 := Aside0.mk c41
        clear c41
        obtain ⟨y186, hy186⟩ : ∃ y_ : List Int, y_ = (y180 ++ t183) := ⟨_, rfl⟩
        replace H : ((spec_l9Two.f (((rd_T37 l0 0).f7).length : Int)).bind fun t190 => (if y186.length + t190.length < 140737488355328 then ((some (y186 ++ t190 : List Int)).bind fun y193 => (if y193.length + ((rd_T37 l0 0).f7).length < 140737488355328 then ((some (y193 ++ ((rd_T37 l0 0).f7) : List Int)).bind fun y196 => ((spec_l9Two.f (wrap64 ((y196.length : Int) + 2))).bind fun t199 => ((some (cpy y196 t199 : List Int)).bind fun y202 => ((spec_l9Sum.f k1 y202).bind fun t205 => ((spec_l9Two.f t205).bind fun t206 => (if y202.length + t206.length < 140737488355328 then (some (y202 ++ t206)) else (none))))))) else (none))) else (none))) = some r := by first | (rw [hy186]; with_reducible exact H) | (have H2_ := (Option.bind_some _ _).symm.trans H; rw [hy186]; with_reducible exact H2_) | (have H2_ := (Option.bind_some _ _).symm.trans H; with_reducible exact H2_) | with_reducible exact H | (rw [hy186]; exact H) | exact H
        have Ny186 := Aside0.mk hy186
        clear hy186
        replace H := Option.bind_eq_some_iff.mp H
        obtain ⟨t190, A420, H⟩ := H
        (try dsimp only at H)
        have A42 := Aside0.mk A420
        clear A420
        by_cases c43 : y186.length + t190.length < 140737488355328
        case neg => rw [if_neg c43] at H; exact absurd H (by simp)
        rw [if_pos c43] at H
        have LMc43 := Aside0.mk c43
        clear c43
        obtain ⟨y193, hy193⟩ : ∃ y_ : List Int, y_ = (y186 ++ t190) := ⟨_, rfl⟩
        replace H : (if y193.length + ((rd_T37 l0 0).f7).length < 140737488355328 then ((some (y193 ++ ((rd_T37 l0 0).f7) : List Int)).bind fun y196 => ((spec_l9Two.f (wrap64 ((y196.length : Int) + 2))).bind fun t199 => ((some (cpy y196 t199 : List Int)).bind fun y202 => ((spec_l9Sum.f k1 y202).bind fun t205 => ((spec_l9Two.f t205).bind fun t206 => (if y202.length + t206.length < 140737488355328 then (some (y202 ++ t206)) else (none))))))) else (none)) = some r := by first | (rw [hy193]; with_reducible exact H) | (have H2_ := (Option.bind_some _ _).symm.trans H; rw [hy193]; with_reducible exact H2_) | (have H2_ := (Option.bind_some _ _).symm.trans H; with_reducible exact H2_) | with_reducible exact H | (rw [hy193]; exact H) | exact H
        have Ny193 := Aside0.mk hy193
        clear hy193
        by_cases c44 : y193.length + ((rd_T37 l0 0).f7).length < 140737488355328
        case neg => rw [if_neg c44] at H; exact absurd H (by simp)
        rw [if_pos c44] at H
        have LMc44 := Aside0.mk c44
        clear c44
        obtain ⟨y196, hy196⟩ : ∃ y_ : List Int, y_ = (y193 ++ ((rd_T37 l0 0).f7)) := ⟨_, rfl⟩
        replace H : ((spec_l9Two.f (wrap64 ((y196.length : Int) + 2))).bind fun t199 => ((some (cpy y196 t199 : List Int)).bind fun y202 => ((spec_l9Sum.f k1 y202).bind fun t205 => ((spec_l9Two.f t205).bind fun t206 => (if y202.length + t206.length < 140737488355328 then (some (y202 ++ t206)) else (none)))))) = some r := by first | (rw [hy196]; with_reducible exact H) | (have H2_ := (Option.bind_some _ _).symm.trans H; rw [hy196]; with_reducible exact H2_) | (have H2_ := (Option.bind_some _ _).symm.trans H; with_reducible exact H2_) | with_reducible exact H | (rw [hy196]; exact H) | exact H
        have Ny196 := Aside0.mk hy196
        clear hy196
        replace H := Option.bind_eq_some_iff.mp H
        obtain ⟨t199, A450, H⟩ := H
        (try dsimp only at H)
        have A45 := Aside0.mk A450
        clear A450
        obtain ⟨y202, hy202⟩ : ∃ y_ : List Int, y_ = (cpy y196 t199) := ⟨_, rfl⟩
        replace H : ((spec_l9Sum.f k1 y202).bind fun t205 => ((spec_l9Two.f t205).bind fun t206 => (if y202.length + t206.length < 140737488355328 then (some (y202 ++ t206)) else (none)))) = some r := by first | (rw [hy202]; with_reducible exact H) | (have H2_ := (Option.bind_some _ _).symm.trans H; rw [hy202]; with_reducible exact H2_) | (have H2_ := (Option.bind_some _ _).symm.trans H; with_reducible exact H2_) | with_reducible exact H | (rw [hy202]; exact H) | exact H
        have Ny202 := Aside0.mk hy202
        clear hy202
        replace H := Option.bind_eq_some_iff.mp H
        obtain ⟨t205, A460, H⟩ := H
        (try dsimp only at H)
        have A46 := Aside0.mk A460
        clear A460
        replace H := Option.bind_eq_some_iff.mp H
        obtain ⟨t206, A470, H⟩ := H
        (try dsimp only at H)
        have A47 := Aside0.mk A470
        clear A470
        by_cases c48 : y202.length + t206.length < 140737488355328
        case neg => rw [if_neg c48] at H; exact absurd H (by simp)
        rw [if_pos c48] at H
        have LMc48 := Aside0.mk c48
        clear c48
        obtain ⟨y209, hy209⟩ : ∃ y_ : List Int, y_ = (y202 ++ t206) := ⟨_, rfl⟩
        replace H : (some y209) = some r := by first | (rw [hy209]; with_reducible exact H) | (have H2_ := (Option.bind_some _ _).symm.trans H; rw [hy209]; with_reducible exact H2_) | (have H2_ := (Option.bind_some _ _).symm.trans H; with_reducible exact H2_) | with_reducible exact H | (rw [hy209]; exact H) | exact H
        have Ny209 := Aside0.mk hy209
        clear hy209
        obtain rfl := Option.some.inj H
        have p167 : 0 ≤ (0 : Int) := (by omega)
        have q167 : 0 < (l0.length : Int) := of_decide_eq_true (by first | (with_reducible assumption) | assumption)
        obtain ⟨ad167, A167_3, c167_3, A167_7, c167_7, e167, hx167_0, hx167_1, hx167_2, hx167_3, hx167_4, hx167_5, hx167_6, hx167_7, hl167_3, hi167_3, hl167_7, hi167_7⟩ := at_T37 HR0.out 0 p167 q167
        obtain rfl : ad137 = ad167 := (by injection e167)
        have qi167 : (0 < l0.length) = True := eq_true (by omega)
        (try simp only [Int.toNat_zero, Nat.zero_mul, Addr.add_zero'] at hx167_0 hx167_1 hx167_2 hx167_3 hx167_4 hx167_5 hx167_6 hx167_7)
        replace hx167_0 := ck_ HB.out hx167_0
        replace hx167_1 := ck_ HB.out hx167_1
        replace hx167_2 := ck_ HB.out hx167_2
        replace hx167_3 := ck_ HB.out hx167_3
        replace hx167_4 := ck_ HB.out hx167_4
        replace hx167_5 := ck_ HB.out hx167_5
        replace hx167_6 := ck_ HB.out hx167_6
        replace hx167_7 := ck_ HB.out hx167_7
        have HR167_3 := Aside0.mk hi167_3
        have HC167_3 := Aside0.mk hl167_3
        clear hi167_3 hl167_3
        have HR167_7 := Aside0.mk hi167_7
        have HC167_7 := Aside0.mk hl167_7
        clear hi167_7 hl167_7
        replace p167 := eq_true p167
        replace q167 := eq_true q167
        (try clear hx160_0 hx160_1 hx160_2 hx160_3 hx160_4 hx160_5 hx160_6 hx160_7)
        try go_wp2
        have n0_ := Aside0.mk (Kd.R_drew HO_3.out)
        have n1_ := Aside0.mk (below_drew1 HB.out)
        clear HO_3
        clear HB
        have HO_3 := n0_
        have HB := n1_
        clear n0_ n1_
        have p176 : 0 ≤ (0 : Int) := (by omega)
        have q176 : 0 < (l0.length : Int) := of_decide_eq_true (by first | (with_reducible assumption) | assumption)
        obtain ⟨ad176, A176_3, c176_3, A176_7, c176_7, e176, hx176_0, hx176_1, hx176_2, hx176_3, hx176_4, hx176_5, hx176_6, hx176_7, hl176_3, hi176_3, hl176_7, hi176_7⟩ := at_T37 HR0.out 0 p176 q176
        have hw176_7 := hx176_7
        (try simp only [Int.toNat_zero, Nat.zero_mul, Addr.add_zero'] at hw176_7)
        have hw176_6 := hx176_6
        (try simp only [Int.toNat_zero, Nat.zero_mul, Addr.add_zero'] at hw176_6)
        have hw176_5 := hx176_5
        (try simp only [Int.toNat_zero, Nat.zero_mul, Addr.add_zero'] at hw176_5)
        have hw176_4 := hx176_4
        (try simp only [Int.toNat_zero, Nat.zero_mul, Addr.add_zero'] at hw176_4)
        have hw176_3 := hx176_3
        (try simp only [Int.toNat_zero, Nat.zero_mul, Addr.add_zero'] at hw176_3)
        have hw176_2 := hx176_2
        (try simp only [Int.toNat_zero, Nat.zero_mul, Addr.add_zero'] at hw176_2)
        have hw176_1 := hx176_1
        (try simp only [Int.toNat_zero, Nat.zero_mul, Addr.add_zero'] at hw176_1)
        have hw176_0 := hx176_0
        (try simp only [Int.toNat_zero, Nat.zero_mul, Addr.add_zero'] at hw176_0)
        obtain rfl : ad137 = ad176 := (by injection e176)
        have qi176 : (0 < l0.length) = True := eq_true (by omega)
        (try simp only [Int.toNat_zero, Nat.zero_mul, Addr.add_zero'] at hx176_0 hx176_1 hx176_2 hx176_3 hx176_4 hx176_5 hx176_6 hx176_7)
        replace hx176_0 := ck_ HB.out hx176_0
        replace hx176_1 := ck_ HB.out hx176_1
        replace hx176_2 := ck_ HB.out hx176_2
        replace hx176_3 := ck_ HB.out hx176_3
        replace hx176_4 := ck_ HB.out hx176_4
        replace hx176_5 := ck_ HB.out hx176_5
        replace hx176_6 := ck_ HB.out hx176_6
        replace hx176_7 := ck_ HB.out hx176_7
        have HR176_3 := Aside0.mk hi176_3
        have HC176_3 := Aside0.mk hl176_3
        clear hi176_3 hl176_3
        have HR176_7 := Aside0.mk hi176_7
        have HC176_7 := Aside0.mk hl176_7
        clear hi176_7 hl176_7
        replace p176 := eq_true p176
        replace q176 := eq_true q176
        refine start_ (n := 20) (S := fun w' => w'.cell? ad137 = some (.int .i64 ((rd_T37 l0 0).f0)) ∧ w'.cell? ⟨ad137.block, ad137.off + 1, none⟩ = some (.string ((rd_T37 l0 0).f1)) ∧ w'.cell? ⟨ad137.block, ad137.off + 2, none⟩ = some (.string ((rd_T37 l0 0).f2)) ∧ w'.cell? ⟨ad137.block, ad137.off + 3, none⟩ = some (.slice A176_3 ((rd_T37 l0 0).f3).length c176_3) ∧ w'.cell? ⟨ad137.block, ad137.off + 4, none⟩ = some (.int .i64 ((rd_T37 l0 0).f4)) ∧ w'.cell? ⟨ad137.block, ad137.off + 5, none⟩ = some (.int .i64 ((rd_T37 l0 0).f5)) ∧ w'.cell? ⟨ad137.block, ad137.off + 6, none⟩ = some (.int .i64 ((rd_T37 l0 0).f6)) ∧ w'.cell? ⟨ad137.block, ad137.off + 7, none⟩ = some (.slice A176_7 ((rd_T37 l0 0).f7).length c176_7)) (ds := []) #[false, false, false, false, false, false, false, false, false, false, false, false, false, false, false, false, false, false, false, false] (by kernel_rfl) rfl rfl ⟨(ck_ HB.out hw176_0), (ck_ HB.out hw176_1), (ck_ HB.out hw176_2), (ck_ HB.out hw176_3), (ck_ HB.out hw176_4), (ck_ HB.out hw176_5), (ck_ HB.out hw176_6), (ck_ HB.out hw176_7)⟩ (fun hHeld => ?_); refine with_tabW spec_l9Pack.tab8 spec_l9Pack.bits8 (fun HT_ HW_ => ?_)
        generalize wr.drew = w49 at HO_3 HB HR176_3 HR176_7 hx176_0 hx176_1 hx176_2 hx176_3 hx176_4 hx176_5 hx176_6 hx176_7 hHeld ⊢
        refine pure_ (i := 0) (N := some 66) (v := ?_) (a' := ?_) #[true, false, false, false, false, false, false, false, false, false, false, false, false, false, false, false, false, false, false, false] rfl rfl (any_of HT_.out (by kernel_rfl)) (fun _ _ _ h => h) (Or.inl ⟨by rfl, ?_⟩) ?_ ?_; rotate_left
        · intro w'; go_simp; all_goals (first | with_reducible rfl | (simp [Instr.field, go_sem]; rfl))
        rotate_left
        · simp only [Act.put, List.setIfInBounds_toArray, List.set_cons_zero, List.set_cons_succ, i64_w, i32_w]; rfl
        refine pure_ (i := 1) (N := some 67) (v := ?_) (a' := ?_) #[true, true, false, false, false, false, false, false, false, false, false, false, false, false, false, false, false, false, false, false] rfl rfl (any_of HT_.out (by kernel_rfl)) (fun _ _ _ h => h) (Or.inl ⟨by rfl, ?_⟩) ?_ ?_; rotate_left
        · intro w'; go_simp; all_goals (first | with_reducible rfl | (simp [Instr.field, go_sem]; rfl))
        rotate_left
        · simp only [Act.put, List.setIfInBounds_toArray, List.set_cons_zero, List.set_cons_succ, i64_w, i32_w]; rfl
        refine pure_ (i := 2) (N := some 68) (v := ?_) (a' := ?_) #[true, true, true, false, false, false, false, false, false, false, false, false, false, false, false, false, false, false, false, false] rfl rfl (any_of HT_.out (by kernel_rfl)) (fun _ _ _ h => h) (Or.inl ⟨by rfl, ?_⟩) ?_ ?_; rotate_left
        · intro w'; go_simp; all_goals (first | with_reducible rfl | (simp [Instr.field, go_sem]; rfl))
        rotate_left
        · simp only [Act.put, List.setIfInBounds_toArray, List.set_cons_zero, List.set_cons_succ, i64_w, i32_w]; rfl
        refine pure_ (i := 3) (N := some 69) (v := ?_) (a' := ?_) #[true, true, true, true, false, false, false, false, false, false, false, false, false, false, false, false, false, false, false, false] rfl rfl (any_of HT_.out (by kernel_rfl)) (fun _ _ _ h => h) (Or.inl ⟨by rfl, ?_⟩) ?_ ?_; rotate_left
        · intro w'; go_simp; all_goals (first | with_reducible rfl | (simp [Instr.field, go_sem]; rfl))
        rotate_left
        · simp only [Act.put, List.setIfInBounds_toArray, List.set_cons_zero, List.set_cons_succ, i64_w, i32_w]; rfl
        refine pure_ (i := 6) (N := some 72) (v := ?_) (a' := ?_) #[true, true, true, true, false, false, true, false, false, false, false, false, false, false, false, false, false, false, false, false] rfl rfl (any_of HT_.out (by kernel_rfl)) (fun _ _ _ h => h) (Or.inl ⟨by rfl, ?_⟩) ?_ ?_; rotate_left
        · intro w'; go_simp; all_goals (first | with_reducible rfl | (simp [Instr.field, go_sem]; rfl))
        rotate_left
        · simp only [Act.put, List.setIfInBounds_toArray, List.set_cons_zero, List.set_cons_succ, i64_w, i32_w]; rfl
        refine pure_ (i := 7) (N := some 73) (v := ?_) (a' := ?_) #[true, true, true, true, false, false, true, true, false, false, false, false, false, false, false, false, false, false, false, false] rfl rfl (any_of HT_.out (by kernel_rfl)) (fun _ _ _ h => h) (Or.inl ⟨by rfl, ?_⟩) ?_ ?_; rotate_left
        · intro w'; go_simp; all_goals (first | with_reducible rfl | (simp [Instr.field, go_sem]; rfl))
        rotate_left
        · simp only [Act.put, List.setIfInBounds_toArray, List.set_cons_zero, List.set_cons_succ, i64_w, i32_w]; rfl
        refine pure_ (i := 8) (N := some 74) (v := ?_) (a' := ?_) #[true, true, true, true, false, false, true, true, true, false, false, false, false, false, false, false, false, false, false, false] rfl rfl (any_of HT_.out (by kernel_rfl)) (fun _ _ _ h => h) (Or.inl ⟨by rfl, ?_⟩) ?_ ?_; rotate_left
        · intro w'; go_simp; all_goals (first | with_reducible rfl | (simp [Instr.field, go_sem]; rfl))
        rotate_left
        · simp only [Act.put, List.setIfInBounds_toArray, List.set_cons_zero, List.set_cons_succ, i64_w, i32_w]; rfl
        refine pure_ (i := 13) (N := some 79) (v := ?_) (a' := ?_) #[true, true, true, true, false, false, true, true, true, false, false, false, false, true, false, false, false, false, false, false] rfl rfl (any_of HT_.out (by kernel_rfl)) (fun _ _ _ h => h) (Or.inl ⟨by rfl, ?_⟩) ?_ ?_; rotate_left
        · intro w'; go_simp; all_goals (first | with_reducible rfl | (simp [Instr.field, go_sem]; rfl))
        rotate_left
        · simp only [Act.put, List.setIfInBounds_toArray, List.set_cons_zero, List.set_cons_succ, i64_w, i32_w]; rfl
        refine pure_ (i := 14) (N := some 80) (v := ?_) (a' := ?_) #[true, true, true, true, false, false, true, true, true, false, false, false, false, true, true, false, false, false, false, false] rfl rfl (any_of HT_.out (by kernel_rfl)) (fun _ _ _ h => h) (Or.inl ⟨by rfl, ?_⟩) ?_ ?_; rotate_left
        · intro w'; go_simp; all_goals (first | with_reducible rfl | (simp [Instr.field, go_sem]; rfl))
        rotate_left
        · simp only [Act.put, List.setIfInBounds_toArray, List.set_cons_zero, List.set_cons_succ, i64_w, i32_w]; rfl
        refine pure_ (i := 15) (N := some 81) (v := ?_) (a' := ?_) #[true, true, true, true, false, false, true, true, true, false, false, false, false, true, true, true, false, false, false, false] rfl rfl (any_of HT_.out (by kernel_rfl)) (fun _ _ _ h => h) (Or.inl ⟨by rfl, ?_⟩) ?_ ?_; rotate_left
        · intro w'; go_simp; all_goals (first | with_reducible rfl | (simp [Instr.field, go_sem]; rfl))
        rotate_left
        · simp only [Act.put, List.setIfInBounds_toArray, List.set_cons_zero, List.set_cons_succ, i64_w, i32_w]; rfl
        refine take_ (i := 4) (N := some 70) (v := ?_) (a' := ?_) #[true, true, true, true, true, false, true, true, true, false, false, false, false, true, true, true, false, false, false, false] rfl rfl (take_ofW HT_.out HW_.out (by kernel_rfl)) (fun _ _ _ h => h) (Or.inl ⟨by rfl, ?_⟩) hHeld ?_ ?_; rotate_left
        · rintro w' ⟨s0, s1, s2, s3, s4, s5, s6, s7⟩; go_simp; all_goals (first | with_reducible rfl | (simp [Instr.field, go_sem]; rfl))
        rotate_left
        · simp only [Act.put, List.setIfInBounds_toArray, List.set_cons_zero, List.set_cons_succ, i64_w, i32_w]; rfl
        refine pure_ (i := 5) (N := some 71) (v := ?_) (a' := ?_) #[true, true, true, true, true, true, true, true, true, false, false, false, false, true, true, true, false, false, false, false] rfl rfl (any_of HT_.out (by kernel_rfl)) (fun _ _ _ h => h) (Or.inl ⟨by rfl, ?_⟩) ?_ ?_; rotate_left
        · intro w'; go_simp; all_goals (first | with_reducible rfl | (simp [Instr.field, go_sem]; rfl))
        rotate_left
        · simp only [Act.put, List.setIfInBounds_toArray, List.set_cons_zero, List.set_cons_succ, i64_w, i32_w]; rfl
        refine take_ (i := 9) (N := some 75) (v := ?_) (a' := ?_) #[true, true, true, true, true, true, true, true, true, true, false, false, false, true, true, true, false, false, false, false] rfl rfl (take_ofW HT_.out HW_.out (by kernel_rfl)) (fun _ _ _ h => h) (Or.inl ⟨by rfl, ?_⟩) hHeld ?_ ?_; rotate_left
        · rintro w' ⟨s0, s1, s2, s3, s4, s5, s6, s7⟩; go_simp; all_goals (first | with_reducible rfl | (simp [Instr.field, go_sem]; rfl))
        rotate_left
        · simp only [Act.put, List.setIfInBounds_toArray, List.set_cons_zero, List.set_cons_succ, i64_w, i32_w]; rfl
        refine pure_ (i := 10) (N := some 76) (v := ?_) (a' := ?_) #[true, true, true, true, true, true, true, true, true, true, true, false, false, true, true, true, false, false, false, false] rfl rfl (any_of HT_.out (by kernel_rfl)) (fun _ _ _ h => h) (Or.inl ⟨by rfl, ?_⟩) ?_ ?_; rotate_left
        · intro w'; go_simp; all_goals (first | with_reducible rfl | (simp [Instr.field, go_sem]; rfl))
        rotate_left
        · simp only [Act.put, List.setIfInBounds_toArray, List.set_cons_zero, List.set_cons_succ, i64_w, i32_w]; rfl
        refine take_ (i := 16) (N := some 82) (v := ?_) (a' := ?_) #[true, true, true, true, true, true, true, true, true, true, true, false, false, true, true, true, true, false, false, false] rfl rfl (take_ofW HT_.out HW_.out (by kernel_rfl)) (fun _ _ _ h => h) (Or.inl ⟨by rfl, ?_⟩) hHeld ?_ ?_; rotate_left
        · rintro w' ⟨s0, s1, s2, s3, s4, s5, s6, s7⟩; go_simp; all_goals (first | with_reducible rfl | (simp [Instr.field, go_sem]; rfl))
        rotate_left
        · simp only [Act.put, List.setIfInBounds_toArray, List.set_cons_zero, List.set_cons_succ, i64_w, i32_w]; rfl
        refine one_ (i := 11) (N := some 77) #[true, true, true, true, true, true, true, true, true, true, true, true, false, true, true, true, true, false, false, false] rfl rfl (one_of HT_.out (by kernel_rfl)) (by decide) (fun K hK => ?_)
        refine Kd.R_lit_step (Kd.int .u8) _ 5 ?hg (N := 77) ?hd (xs := ([((rd_T37 l0 0).f4) % 256, ((rd_T37 l0 0).f5) % 256] : List Int)) (inner := [.int .u8 (((rd_T37 l0 0).f4) % 256), .int .u8 (((rd_T37 l0 0).f5) % 256)]) (ok := fun _ => True) (okp := fun _ => True) ?hr ?hp (fun _ hk => hk) trivial (Below.refl _ _) (Nat.le_refl _) (by simp) ?_; (case hd => rfl); (case hg => rfl); (case hr => first | (go_simp; done) | (go_simp; rfl)); (case hp => exact (Reps.one (show Kd.M (Kd.int .u8) _ _ _ (((rd_T37 l0 0).f4) % 256) [.int .u8 (((rd_T37 l0 0).f4) % 256)] from rfl) (Reps.one (show Kd.M (Kd.int .u8) _ _ _ (((rd_T37 l0 0).f5) % 256) [.int .u8 (((rd_T37 l0 0).f5) % 256)] from rfl) (Reps.none _ _))))
        intro v178 w50 ho51 hb hg_ hnew_
        clear hg_ hnew_
        (first | rw [← Ny177.out] at ho51 | (simp only [Int.reduceToNat] at ho51; rw [← Ny177.out] at ho51))
        have n0_ := Aside0.mk (Kd.R_elder' (R_up HO_3.out) (Kd.R_base ho51) hb)
        have n1_ := Aside0.mk (Kd.R_lower (Kd.R_new' ho51 (Kd.R_lt (R_up HO_3.out))) (below_size (HB_up HB.out)))
        have n2_ := Aside0.mk (below_step (HB_up HB.out) hb)
        clear HO_3
        clear HB
        have HO_3 := n0_
        have HO179 := n1_
        have HB := n2_
        clear n0_ n1_ n2_
        clear hb ho51
        obtain ⟨Ao53, co53, eo53⟩ := Kd.R_slice HO179.out
        (first | subst eo53 | (injection eo53 with f1_ f2_ f3_; have f4_ := f1_.symm; have f5_ := f3_.symm; clear f1_ f2_ f3_; subst f4_; subst f5_))
        refine hK.out _ _ ⟨(ck_ HB.out hw176_0), (ck_ HB.out hw176_1), (ck_ HB.out hw176_2), (ck_ HB.out hw176_3), (ck_ HB.out hw176_4), (ck_ HB.out hw176_5), (ck_ HB.out hw176_6), (ck_ HB.out hw176_7)⟩ (fun hHeld => ?_)
        clear hK K
        refine norm_ (a' := ?_) ?_ ?_
        rotate_left
        · show Act.put _ (some 77) _ = _
          simp only [Act.put, List.setIfInBounds_toArray, List.set_cons_zero, List.set_cons_succ, i64_w, i32_w]
          rfl
        refine one_ (i := 12) (N := some 78) #[true, true, true, true, true, true, true, true, true, true, true, true, true, true, true, true, true, false, false, false] rfl rfl (one_of HT_.out (by kernel_rfl)) (by decide) (fun K hK => ?_)
        refine Kd.R_append_rows_step (Kd.int .u8) (w0 := w) w.heap.size (by rfl) (.tmp 66) (.tmp 77) 24 5 (.int .u8 0) 1 rfl Try.underlying24 info5 rfl (by decide) (by omega) u3 x3_1 y177 _ _ _ (fun k_ => some k_ ≠ (.slice Ao53 y177.length co53 : Value).ownBlock) (fun _ => False) rfl rfl ?aO ?aR (fun _ _ h => h) (fun _ h => h.elim) ?aF ?aB ?aS ?aL ?_
        (case aR => exact C_up (Kd.R_reads' HO179.out).2.2)
        (case aB => exact (HB_up HB.out))
        (case aF => exact (fun k_ hk => Kd.fresh' (Kd.R_lt (R_up HO179.out)) k_ hk))
        (case aO => exact (by (with_reducible repeat (first | apply Kd.R_alloc | apply Kd.R_drewN | apply Kd.R_drew)); exact Kd.R_mono HO_3.out (fun _ hk => hk.2)))
        (case aS => exact (below_size (HB_up HB.out)))
        (case aL => have := LMc39.out; omega)
        intro v181 w52 ho hb hg hat
        rw [← Ny180.out] at ho
        have n0_ := Aside0.mk (Kd.R_after (ok := (fun _ => True)) (R_up HO179.out) hg hat)
        have n1_ := Aside0.mk (hb)
        have n2_ := Aside0.mk (ho)
        clear HO179
        clear HB
        clear HO_3
        have HO179 := n0_
        have HB := n1_
        have HO182 := n2_
        clear n0_ n1_ n2_
        clear ho hb hg hat
        refine hK.out _ _ ⟨(ck_ HB.out hw176_0), (ck_ HB.out hw176_1), (ck_ HB.out hw176_2), (ck_ HB.out hw176_3), (ck_ HB.out hw176_4), (ck_ HB.out hw176_5), (ck_ HB.out hw176_6), (ck_ HB.out hw176_7)⟩ (fun hHeld => ?_)
        clear hK K
        refine norm_ (a' := ?_) ?_ ?_
        rotate_left
        · show Act.put _ (some 78) _ = _
          simp only [Act.put, List.setIfInBounds_toArray, List.set_cons_zero, List.set_cons_succ, i64_w, i32_w]
          rfl
        refine one_ (i := 17) (N := some 83) #[true, true, true, true, true, true, true, true, true, true, true, true, true, true, true, true, true, true, false, false] rfl rfl (one_of HT_.out (by kernel_rfl)) (by decide) (fun K hK => ?_)
        refine goes_ Try.func73 (by kernel_rfl) rfl #[.int .i64 ((rd_T37 l0 0).f6)] (by rfl) rfl rfl (by (try simp only [List.map_toArray, List.map_cons, List.map_nil]); first | done | rfl | (simp only [List.length_drop, List.length_take]; rfl)) ?_
        with_reducible refine (spec_l9Two.calls ((rd_T37 l0 0).f6) t183 _ A40.out).mono ?_
        rintro e w54 ⟨v184, rfl, ho0, hb⟩
        refine ⟨_, rfl, ?_⟩
        have n0_ := Aside0.mk (Kd.R_elder' (R_up HO179.out) (Kd.R_base ho0) hb)
        have n1_ := Aside0.mk (Kd.R_elder' (R_up HO182.out) (Kd.R_base ho0) hb)
        have n2_ := Aside0.mk (Kd.R_lower (Kd.R_new' (Kd.R_new' ho0 (Kd.R_lt (R_up HO179.out))) (Kd.R_lt (R_up HO182.out))) (below_size (HB_up HB.out)))
        have n3_ := Aside0.mk (below_step (HB_up HB.out) hb)
        clear HO179
        clear HO182
        clear HB
        have HO179 := n0_
        have HO182 := n1_
        have HO185 := n2_
        have HB := n3_
        clear n0_ n1_ n2_ n3_
        (try clear hb)
        (try clear hb2)
        (try clear hk)
        (try clear hi)
        (try clear ho0)
        obtain ⟨Ao56, co56, eo56⟩ := Kd.R_slice HO185.out
        (first | subst eo56 | (injection eo56 with f1_ f2_ f3_; have f4_ := f1_.symm; have f5_ := f3_.symm; clear f1_ f2_ f3_; subst f4_; subst f5_))
        refine hK.out _ _ ⟨(ck_ HB.out hw176_0), (ck_ HB.out hw176_1), (ck_ HB.out hw176_2), (ck_ HB.out hw176_3), (ck_ HB.out hw176_4), (ck_ HB.out hw176_5), (ck_ HB.out hw176_6), (ck_ HB.out hw176_7)⟩ (fun hHeld => ?_)
        clear hK K
        refine norm_ (a' := ?_) ?_ ?_
        rotate_left
        · show Act.put _ (some 83) _ = _
          simp only [Act.put, List.setIfInBounds_toArray, List.set_cons_zero, List.set_cons_succ, i64_w, i32_w]
          rfl
        refine one_ (i := 18) (N := some 84) #[true, true, true, true, true, true, true, true, true, true, true, true, true, true, true, true, true, true, true, false] rfl rfl (one_of HT_.out (by kernel_rfl)) (by decide) (fun K hK => ?_)
        refine Kd.R_append_rows_step (Kd.int .u8) (w0 := w) w.heap.size (by rfl) (.tmp 78) (.tmp 83) 24 5 (.int .u8 0) 1 rfl Try.underlying24 info5 rfl (by decide) (by omega) v181 y180 t183 _ _ _ (fun k_ => some k_ ≠ (.slice Ao53 y177.length co53 : Value).ownBlock ∧ some k_ ≠ (.slice Ao56 t183.length co56 : Value).ownBlock) (fun _ => False) rfl rfl ?aO ?aR (fun _ _ h => h) (fun _ h => h.elim) ?aF ?aB ?aS ?aL ?_
        (case aR => exact C_up (Kd.R_reads' HO185.out).2.2)
        (case aB => exact (HB_up HB.out))
        (case aF => exact (fun k_ hk => ⟨Kd.fresh' (Kd.R_lt (R_up HO179.out)) k_ hk, Kd.fresh' (Kd.R_lt (R_up HO185.out)) k_ hk⟩))
        (case aO => exact (R_up HO182.out))
        (case aS => exact (below_size (HB_up HB.out)))
        (case aL => have := LMc41.out; omega)
        intro v187 w55 ho hb hg hat
        rw [← Ny186.out] at ho
        have n0_ := Aside0.mk (Kd.R_after (ok := (fun k_ => some k_ ≠ (.slice Ao56 t183.length co56 : Value).ownBlock)) (by (with_reducible repeat (first | apply Kd.R_alloc | apply Kd.R_drewN | apply Kd.R_drew)); exact Kd.R_mono HO179.out (fun _ hk => ⟨hk.2, hk.1.2⟩)) hg hat)
        have n1_ := Aside0.mk (Kd.R_after (ok := (fun k_ => some k_ ≠ (.slice Ao53 y177.length co53 : Value).ownBlock)) (by (with_reducible repeat (first | apply Kd.R_alloc | apply Kd.R_drewN | apply Kd.R_drew)); exact Kd.R_mono HO185.out (fun _ hk => ⟨hk.1.2, hk.2⟩)) hg hat)
        have n2_ := Aside0.mk (hb)
        have n3_ := Aside0.mk (ho)
        clear HO179
        clear HO185
        clear HB
        clear HO182
        have HO179 := n0_
        have HO185 := n1_
        have HB := n2_
        have HO188 := n3_
        clear n0_ n1_ n2_ n3_
        clear ho hb hg hat
        refine hK.out _ _ ⟨(ck_ HB.out hw176_0), (ck_ HB.out hw176_1), (ck_ HB.out hw176_2), (ck_ HB.out hw176_3), (ck_ HB.out hw176_4), (ck_ HB.out hw176_5), (ck_ HB.out hw176_6), (ck_ HB.out hw176_7)⟩ (fun hHeld => ?_)
        clear hK K
        refine norm_ (a' := ?_) ?_ ?_
        rotate_left
        · show Act.put _ (some 84) _ = _
          simp only [Act.put, List.setIfInBounds_toArray, List.set_cons_zero, List.set_cons_succ, i64_w, i32_w]
          rfl
        refine pure_ (i := 19) (N := some 3) (v := ?_) (a' := ?_) #[true, true, true, true, true, true, true, true, true, true, true, true, true, true, true, true, true, true, true, true] rfl rfl (any_of HT_.out (by kernel_rfl)) (fun _ _ _ h => h) (Or.inl ⟨by rfl, ?_⟩) ?_ ?_; rotate_left
        · intro w'; go_simp; all_goals (first | with_reducible rfl | (simp [Instr.field, go_sem]; rfl))
        rotate_left
        · simp only [Act.put, List.setIfInBounds_toArray, List.set_cons_zero, List.set_cons_succ, i64_w, i32_w]; rfl
        refine done_ (done_of HT_.out (by kernel_rfl)) ?_
        try go_wp2
        have n0_ := Aside0.mk (Kd.R_drew HO179.out)
        have n1_ := Aside0.mk (Kd.R_drew HO185.out)
        have n2_ := Aside0.mk (Kd.R_drew HO188.out)
        have n3_ := Aside0.mk (below_drew1 HB.out)
        clear HO179
        clear HO185
        clear HO188
        clear HB
        have HO179 := n0_
        have HO185 := n1_
        have HO188 := n2_
        have HB := n3_
        clear n0_ n1_ n2_ n3_
        have p189 : 0 ≤ (0 : Int) := (by omega)
        have q189 : 0 < (l0.length : Int) := of_decide_eq_true (by first | (with_reducible assumption) | assumption)
        obtain ⟨ad189, A189_3, c189_3, A189_7, c189_7, e189, hx189_0, hx189_1, hx189_2, hx189_3, hx189_4, hx189_5, hx189_6, hx189_7, hl189_3, hi189_3, hl189_7, hi189_7⟩ := at_T37 HR0.out 0 p189 q189
        have hw189_7 := hx189_7
        (try simp only [Int.toNat_zero, Nat.zero_mul, Addr.add_zero'] at hw189_7)
        have hw189_6 := hx189_6
        (try simp only [Int.toNat_zero, Nat.zero_mul, Addr.add_zero'] at hw189_6)
        have hw189_5 := hx189_5
        (try simp only [Int.toNat_zero, Nat.zero_mul, Addr.add_zero'] at hw189_5)
        have hw189_4 := hx189_4
        (try simp only [Int.toNat_zero, Nat.zero_mul, Addr.add_zero'] at hw189_4)
        have hw189_3 := hx189_3
        (try simp only [Int.toNat_zero, Nat.zero_mul, Addr.add_zero'] at hw189_3)
        have hw189_2 := hx189_2
        (try simp only [Int.toNat_zero, Nat.zero_mul, Addr.add_zero'] at hw189_2)
        have hw189_1 := hx189_1
        (try simp only [Int.toNat_zero, Nat.zero_mul, Addr.add_zero'] at hw189_1)
        have hw189_0 := hx189_0
        (try simp only [Int.toNat_zero, Nat.zero_mul, Addr.add_zero'] at hw189_0)
        obtain rfl : ad137 = ad189 := (by injection e189)
        have qi189 : (0 < l0.length) = True := eq_true (by omega)
        (try simp only [Int.toNat_zero, Nat.zero_mul, Addr.add_zero'] at hx189_0 hx189_1 hx189_2 hx189_3 hx189_4 hx189_5 hx189_6 hx189_7)
        replace hx189_0 := ck_ HB.out hx189_0
        replace hx189_1 := ck_ HB.out hx189_1
        replace hx189_2 := ck_ HB.out hx189_2
        replace hx189_3 := ck_ HB.out hx189_3
        replace hx189_4 := ck_ HB.out hx189_4
        replace hx189_5 := ck_ HB.out hx189_5
        replace hx189_6 := ck_ HB.out hx189_6
        replace hx189_7 := ck_ HB.out hx189_7
        have HR189_3 := Aside0.mk hi189_3
        have HC189_3 := Aside0.mk hl189_3
        clear hi189_3 hl189_3
        have HR189_7 := Aside0.mk hi189_7
        have HC189_7 := Aside0.mk hl189_7
        clear hi189_7 hl189_7
        replace p189 := eq_true p189
        replace q189 := eq_true q189
        refine start_ (n := 14) (S := fun w' => w'.cell? ad137 = some (.int .i64 ((rd_T37 l0 0).f0)) ∧ w'.cell? ⟨ad137.block, ad137.off + 1, none⟩ = some (.string ((rd_T37 l0 0).f1)) ∧ w'.cell? ⟨ad137.block, ad137.off + 2, none⟩ = some (.string ((rd_T37 l0 0).f2)) ∧ w'.cell? ⟨ad137.block, ad137.off + 3, none⟩ = some (.slice A189_3 ((rd_T37 l0 0).f3).length c189_3) ∧ w'.cell? ⟨ad137.block, ad137.off + 4, none⟩ = some (.int .i64 ((rd_T37 l0 0).f4)) ∧ w'.cell? ⟨ad137.block, ad137.off + 5, none⟩ = some (.int .i64 ((rd_T37 l0 0).f5)) ∧ w'.cell? ⟨ad137.block, ad137.off + 6, none⟩ = some (.int .i64 ((rd_T37 l0 0).f6)) ∧ w'.cell? ⟨ad137.block, ad137.off + 7, none⟩ = some (.slice A189_7 ((rd_T37 l0 0).f7).length c189_7)) (ds := []) #[false, false, false, false, false, false, false, false, false, false, false, false, false, false] (by kernel_rfl) rfl rfl ⟨(ck_ HB.out hw189_0), (ck_ HB.out hw189_1), (ck_ HB.out hw189_2), (ck_ HB.out hw189_3), (ck_ HB.out hw189_4), (ck_ HB.out hw189_5), (ck_ HB.out hw189_6), (ck_ HB.out hw189_7)⟩ (fun hHeld => ?_); refine with_tabW spec_l9Pack.tab9 spec_l9Pack.bits9 (fun HT_ HW_ => ?_)
        generalize w55.drew = w57 at HO179 HO185 HO188 HB HR189_3 HR189_7 hx189_0 hx189_1 hx189_2 hx189_3 hx189_4 hx189_5 hx189_6 hx189_7 hHeld ⊢
        refine pure_ (i := 0) (N := some 85) (v := ?_) (a' := ?_) #[true, false, false, false, false, false, false, false, false, false, false, false, false, false] rfl rfl (any_of HT_.out (by kernel_rfl)) (fun _ _ _ h => h) (Or.inl ⟨by rfl, ?_⟩) ?_ ?_; rotate_left
        · intro w'; go_simp; all_goals (first | with_reducible rfl | (simp [Instr.field, go_sem]; rfl))
        rotate_left
        · simp only [Act.put, List.setIfInBounds_toArray, List.set_cons_zero, List.set_cons_succ, i64_w, i32_w]; rfl
        refine pure_ (i := 1) (N := some 86) (v := ?_) (a' := ?_) #[true, true, false, false, false, false, false, false, false, false, false, false, false, false] rfl rfl (any_of HT_.out (by kernel_rfl)) (fun _ _ _ h => h) (Or.inl ⟨by rfl, ?_⟩) ?_ ?_; rotate_left
        · intro w'; go_simp; all_goals (first | with_reducible rfl | (simp [Instr.field, go_sem]; rfl))
        rotate_left
        · simp only [Act.put, List.setIfInBounds_toArray, List.set_cons_zero, List.set_cons_succ, i64_w, i32_w]; rfl
        refine pure_ (i := 2) (N := some 87) (v := ?_) (a' := ?_) #[true, true, true, false, false, false, false, false, false, false, false, false, false, false] rfl rfl (any_of HT_.out (by kernel_rfl)) (fun _ _ _ h => h) (Or.inl ⟨by rfl, ?_⟩) ?_ ?_; rotate_left
        · intro w'; go_simp; all_goals (first | with_reducible rfl | (simp [Instr.field, go_sem]; rfl))
        rotate_left
        · simp only [Act.put, List.setIfInBounds_toArray, List.set_cons_zero, List.set_cons_succ, i64_w, i32_w]; rfl
        refine pure_ (i := 3) (N := some 88) (v := ?_) (a' := ?_) #[true, true, true, true, false, false, false, false, false, false, false, false, false, false] rfl rfl (any_of HT_.out (by kernel_rfl)) (fun _ _ _ h => h) (Or.inl ⟨by rfl, ?_⟩) ?_ ?_; rotate_left
        · intro w'; go_simp; all_goals (first | with_reducible rfl | (simp [Instr.field, go_sem]; rfl))
        rotate_left
        · simp only [Act.put, List.setIfInBounds_toArray, List.set_cons_zero, List.set_cons_succ, i64_w, i32_w]; rfl
        refine pure_ (i := 8) (N := some 93) (v := ?_) (a' := ?_) #[true, true, true, true, false, false, false, false, true, false, false, false, false, false] rfl rfl (any_of HT_.out (by kernel_rfl)) (fun _ _ _ h => h) (Or.inl ⟨by rfl, ?_⟩) ?_ ?_; rotate_left
        · intro w'; go_simp; all_goals (first | with_reducible rfl | (simp [Instr.field, go_sem]; rfl))
        rotate_left
        · simp only [Act.put, List.setIfInBounds_toArray, List.set_cons_zero, List.set_cons_succ, i64_w, i32_w]; rfl
        refine pure_ (i := 9) (N := some 94) (v := ?_) (a' := ?_) #[true, true, true, true, false, false, false, false, true, true, false, false, false, false] rfl rfl (any_of HT_.out (by kernel_rfl)) (fun _ _ _ h => h) (Or.inl ⟨by rfl, ?_⟩) ?_ ?_; rotate_left
        · intro w'; go_simp; all_goals (first | with_reducible rfl | (simp [Instr.field, go_sem]; rfl))
        rotate_left
        · simp only [Act.put, List.setIfInBounds_toArray, List.set_cons_zero, List.set_cons_succ, i64_w, i32_w]; rfl
        refine pure_ (i := 10) (N := some 95) (v := ?_) (a' := ?_) #[true, true, true, true, false, false, false, false, true, true, true, false, false, false] rfl rfl (any_of HT_.out (by kernel_rfl)) (fun _ _ _ h => h) (Or.inl ⟨by rfl, ?_⟩) ?_ ?_; rotate_left
        · intro w'; go_simp; all_goals (first | with_reducible rfl | (simp [Instr.field, go_sem]; rfl))
        rotate_left
        · simp only [Act.put, List.setIfInBounds_toArray, List.set_cons_zero, List.set_cons_succ, i64_w, i32_w]; rfl
        refine take_ (i := 4) (N := some 89) (v := ?_) (a' := ?_) #[true, true, true, true, true, false, false, false, true, true, true, false, false, false] rfl rfl (take_ofW HT_.out HW_.out (by kernel_rfl)) (fun _ _ _ h => h) (Or.inl ⟨by rfl, ?_⟩) hHeld ?_ ?_; rotate_left
        · rintro w' ⟨s0, s1, s2, s3, s4, s5, s6, s7⟩; go_simp; all_goals (first | with_reducible rfl | (simp [Instr.field, go_sem]; rfl))
        rotate_left
        · simp only [Act.put, List.setIfInBounds_toArray, List.set_cons_zero, List.set_cons_succ, i64_w, i32_w]; rfl
        refine pure_ (i := 5) (N := some 90) (v := ?_) (a' := ?_) #[true, true, true, true, true, true, false, false, true, true, true, false, false, false] rfl rfl (any_of HT_.out (by kernel_rfl)) (fun _ _ _ h => h) (Or.inl ⟨by rfl, ?_⟩) ?_ ?_; rotate_left
        · intro w'; go_simp; all_goals (first | with_reducible rfl | (simp [Instr.field, go_sem]; rfl))
        rotate_left
        · simp only [Act.put, List.setIfInBounds_toArray, List.set_cons_zero, List.set_cons_succ, i64_w, i32_w]; rfl
        refine take_ (i := 11) (N := some 96) (v := ?_) (a' := ?_) #[true, true, true, true, true, true, false, false, true, true, true, true, false, false] rfl rfl (take_ofW HT_.out HW_.out (by kernel_rfl)) (fun _ _ _ h => h) (Or.inl ⟨by rfl, ?_⟩) hHeld ?_ ?_; rotate_left
        · rintro w' ⟨s0, s1, s2, s3, s4, s5, s6, s7⟩; go_simp; all_goals (first | with_reducible rfl | (simp [Instr.field, go_sem]; rfl))
        rotate_left
        · simp only [Act.put, List.setIfInBounds_toArray, List.set_cons_zero, List.set_cons_succ, i64_w, i32_w]; rfl
        refine one_ (i := 6) (N := some 91) #[true, true, true, true, true, true, true, false, true, true, true, true, false, false] rfl rfl (one_of HT_.out (by kernel_rfl)) (by decide) (fun K hK => ?_)
        refine goes_ Try.func73 (by kernel_rfl) rfl #[.int .i64 (((rd_T37 l0 0).f7).length : Int)] (by rfl) rfl rfl (by (try simp only [List.map_toArray, List.map_cons, List.map_nil]); first | done | rfl | (simp only [List.length_drop, List.length_take]; rfl)) ?_
        with_reducible refine (spec_l9Two.calls (((rd_T37 l0 0).f7).length : Int) t190 _ A42.out).mono ?_
        rintro e w58 ⟨v191, rfl, ho0, hb⟩
        refine ⟨_, rfl, ?_⟩
        have n0_ := Aside0.mk (Kd.R_elder' (R_up HO179.out) (Kd.R_base ho0) hb)
        have n1_ := Aside0.mk (Kd.R_elder' (R_up HO185.out) (Kd.R_base ho0) hb)
        have n2_ := Aside0.mk (Kd.R_elder' (R_up HO188.out) (Kd.R_base ho0) hb)
        have n3_ := Aside0.mk (Kd.R_lower (Kd.R_new' (Kd.R_new' (Kd.R_new' ho0 (Kd.R_lt (R_up HO179.out))) (Kd.R_lt (R_up HO185.out))) (Kd.R_lt (R_up HO188.out))) (below_size (HB_up HB.out)))
        have n4_ := Aside0.mk (below_step (HB_up HB.out) hb)
        clear HO179
        clear HO185
        clear HO188
        clear HB
        have HO179 := n0_
        have HO185 := n1_
        have HO188 := n2_
        have HO192 := n3_
        have HB := n4_
        clear n0_ n1_ n2_ n3_ n4_
        (try clear hb)
        (try clear hb2)
        (try clear hk)
        (try clear hi)
        (try clear ho0)
        obtain ⟨Ao60, co60, eo60⟩ := Kd.R_slice HO192.out
        (first | subst eo60 | (injection eo60 with f1_ f2_ f3_; have f4_ := f1_.symm; have f5_ := f3_.symm; clear f1_ f2_ f3_; subst f4_; subst f5_))
        refine hK.out _ _ ⟨(ck_ HB.out hw189_0), (ck_ HB.out hw189_1), (ck_ HB.out hw189_2), (ck_ HB.out hw189_3), (ck_ HB.out hw189_4), (ck_ HB.out hw189_5), (ck_ HB.out hw189_6), (ck_ HB.out hw189_7)⟩ (fun hHeld => ?_)
        clear hK K
        refine norm_ (a' := ?_) ?_ ?_
        rotate_left
        · show Act.put _ (some 91) _ = _
          simp only [Act.put, List.setIfInBounds_toArray, List.set_cons_zero, List.set_cons_succ, i64_w, i32_w]
          rfl
        refine one_ (i := 7) (N := some 92) #[true, true, true, true, true, true, true, true, true, true, true, true, false, false] rfl rfl (one_of HT_.out (by kernel_rfl)) (by decide) (fun K hK => ?_)
        refine Kd.R_append_rows_step (Kd.int .u8) (w0 := w) w.heap.size (by rfl) (.tmp 85) (.tmp 91) 24 5 (.int .u8 0) 1 rfl Try.underlying24 info5 rfl (by decide) (by omega) v187 y186 t190 _ _ _ (fun k_ => some k_ ≠ (.slice Ao53 y177.length co53 : Value).ownBlock ∧ some k_ ≠ (.slice Ao56 t183.length co56 : Value).ownBlock ∧ some k_ ≠ (.slice Ao60 t190.length co60 : Value).ownBlock) (fun _ => False) rfl rfl ?aO ?aR (fun _ _ h => h) (fun _ h => h.elim) ?aF ?aB ?aS ?aL ?_
        (case aR => exact C_up (Kd.R_reads' HO192.out).2.2)
        (case aB => exact (HB_up HB.out))
        (case aF => exact (fun k_ hk => ⟨Kd.fresh' (Kd.R_lt (R_up HO179.out)) k_ hk, Kd.fresh' (Kd.R_lt (R_up HO185.out)) k_ hk, Kd.fresh' (Kd.R_lt (R_up HO192.out)) k_ hk⟩))
        (case aO => exact (by (with_reducible repeat (first | apply Kd.R_alloc | apply Kd.R_drewN | apply Kd.R_drew)); exact Kd.R_mono HO188.out (fun _ hk => ⟨hk.1.1, ⟨hk.1.2, hk.2⟩⟩)))
        (case aS => exact (below_size (HB_up HB.out)))
        (case aL => have := LMc43.out; omega)
        intro v194 w59 ho hb hg hat
        rw [← Ny193.out] at ho
        have n0_ := Aside0.mk (Kd.R_after (ok := (fun k_ => some k_ ≠ (.slice Ao56 t183.length co56 : Value).ownBlock ∧ some k_ ≠ (.slice Ao60 t190.length co60 : Value).ownBlock)) (by (with_reducible repeat (first | apply Kd.R_alloc | apply Kd.R_drewN | apply Kd.R_drew)); exact Kd.R_mono HO179.out (fun _ hk => ⟨⟨hk.1.1, hk.2⟩, hk.1.2⟩)) hg hat)
        have n1_ := Aside0.mk (Kd.R_after (ok := (fun k_ => some k_ ≠ (.slice Ao53 y177.length co53 : Value).ownBlock ∧ some k_ ≠ (.slice Ao60 t190.length co60 : Value).ownBlock)) (by (with_reducible repeat (first | apply Kd.R_alloc | apply Kd.R_drewN | apply Kd.R_drew)); exact Kd.R_mono HO185.out (fun _ hk => ⟨⟨hk.1.1, hk.2⟩, hk.1.2⟩)) hg hat)
        have n2_ := Aside0.mk (Kd.R_after (ok := (fun k_ => some k_ ≠ (.slice Ao53 y177.length co53 : Value).ownBlock ∧ some k_ ≠ (.slice Ao56 t183.length co56 : Value).ownBlock)) (by (with_reducible repeat (first | apply Kd.R_alloc | apply Kd.R_drewN | apply Kd.R_drew)); exact Kd.R_mono HO192.out (fun _ hk => ⟨⟨hk.1.1.2, hk.1.2⟩, hk.2⟩)) hg hat)
        have n3_ := Aside0.mk (hb)
        have n4_ := Aside0.mk (ho)
        clear HO179
        clear HO185
        clear HO192
        clear HB
        clear HO188
        have HO179 := n0_
        have HO185 := n1_
        have HO192 := n2_
        have HB := n3_
        have HO195 := n4_
        clear n0_ n1_ n2_ n3_ n4_
        clear ho hb hg hat
        refine hK.out _ _ ⟨(ck_ HB.out hw189_0), (ck_ HB.out hw189_1), (ck_ HB.out hw189_2), (ck_ HB.out hw189_3), (ck_ HB.out hw189_4), (ck_ HB.out hw189_5), (ck_ HB.out hw189_6), (ck_ HB.out hw189_7)⟩ (fun hHeld => ?_)
        clear hK K
        refine norm_ (a' := ?_) ?_ ?_
        rotate_left
        · show Act.put _ (some 92) _ = _
          simp only [Act.put, List.setIfInBounds_toArray, List.set_cons_zero, List.set_cons_succ, i64_w, i32_w]
          rfl
        refine one_ (i := 12) (N := some 97) #[true, true, true, true, true, true, true, true, true, true, true, true, true, false] rfl rfl (one_of HT_.out (by kernel_rfl)) (by decide) (fun K hK => ?_)
        refine Kd.R_append_rows_step (Kd.int .u8) (w0 := w) w.heap.size (by rfl) (.tmp 92) (.tmp 96) 24 5 (.int .u8 0) 1 rfl Try.underlying24 info5 rfl (by decide) (by omega) v194 y193 ((rd_T37 l0 0).f7) _ _ _ (fun k_ => some k_ ≠ (.slice Ao53 y177.length co53 : Value).ownBlock ∧ some k_ ≠ (.slice Ao56 t183.length co56 : Value).ownBlock ∧ some k_ ≠ (.slice Ao60 t190.length co60 : Value).ownBlock) (fun _ => False) rfl rfl ?aO ?aR (fun _ _ h => h) (fun _ h => h.elim) ?aF ?aB ?aS ?aL ?_
        (case aR => exact C_up (Kd.C_below HR189_7.out HB.out))
        (case aB => exact (HB_up HB.out))
        (case aF => exact (fun k_ hk => ⟨Kd.fresh' (Kd.R_lt (R_up HO179.out)) k_ hk, Kd.fresh' (Kd.R_lt (R_up HO185.out)) k_ hk, Kd.fresh' (Kd.R_lt (R_up HO192.out)) k_ hk⟩))
        (case aO => exact (R_up HO195.out))
        (case aS => exact (below_size (HB_up HB.out)))
        (case aL => have := LMc44.out; omega)
        intro v197 w61 ho hb hg hat
        rw [← Ny196.out] at ho
        have n0_ := Aside0.mk (Kd.R_after (ok := (fun k_ => some k_ ≠ (.slice Ao56 t183.length co56 : Value).ownBlock ∧ some k_ ≠ (.slice Ao60 t190.length co60 : Value).ownBlock)) (R_up HO179.out) hg hat)
        have n1_ := Aside0.mk (Kd.R_after (ok := (fun k_ => some k_ ≠ (.slice Ao53 y177.length co53 : Value).ownBlock ∧ some k_ ≠ (.slice Ao60 t190.length co60 : Value).ownBlock)) (R_up HO185.out) hg hat)
        have n2_ := Aside0.mk (Kd.R_after (ok := (fun k_ => some k_ ≠ (.slice Ao53 y177.length co53 : Value).ownBlock ∧ some k_ ≠ (.slice Ao56 t183.length co56 : Value).ownBlock)) (R_up HO192.out) hg hat)
        have n3_ := Aside0.mk (hb)
        have n4_ := Aside0.mk (ho)
        clear HO179
        clear HO185
        clear HO192
        clear HB
        clear HO195
        have HO179 := n0_
        have HO185 := n1_
        have HO192 := n2_
        have HB := n3_
        have HO198 := n4_
        clear n0_ n1_ n2_ n3_ n4_
        clear ho hb hg hat
        refine hK.out _ _ ⟨(ck_ HB.out hw189_0), (ck_ HB.out hw189_1), (ck_ HB.out hw189_2), (ck_ HB.out hw189_3), (ck_ HB.out hw189_4), (ck_ HB.out hw189_5), (ck_ HB.out hw189_6), (ck_ HB.out hw189_7)⟩ (fun hHeld => ?_)
        clear hK K
        refine norm_ (a' := ?_) ?_ ?_
        rotate_left
        · show Act.put _ (some 97) _ = _
          simp only [Act.put, List.setIfInBounds_toArray, List.set_cons_zero, List.set_cons_succ, i64_w, i32_w]
          rfl
        refine pure_ (i := 13) (N := some 3) (v := ?_) (a' := ?_) #[true, true, true, true, true, true, true, true, true, true, true, true, true, true] rfl rfl (any_of HT_.out (by kernel_rfl)) (fun _ _ _ h => h) (Or.inl ⟨by rfl, ?_⟩) ?_ ?_; rotate_left
        · intro w'; go_simp; all_goals (first | with_reducible rfl | (simp [Instr.field, go_sem]; rfl))
        rotate_left
        · simp only [Act.put, List.setIfInBounds_toArray, List.set_cons_zero, List.set_cons_succ, i64_w, i32_w]; rfl
        refine done_ (done_of HT_.out (by kernel_rfl)) ?_
        obtain ⟨Ao62, co62, eo62⟩ := Kd.R_slice HO198.out
        subst eo62
        try go_wp2_with (first | ((with_reducible refine gate_callee (f := 73) rfl ?_); refine goesL_ (some 102) rfl rfl Try.func73 (by kernel_rfl) rfl #[.int .i64 (wrap64 ((y196.length : Int) + 2))] rfl (by (try simp only [List.map_toArray, List.map_cons, List.map_nil]); first | done | rfl | (simp only [List.length_drop, List.length_take]; rfl)) ?_; (with_reducible refine (spec_l9Two.calls (wrap64 ((y196.length : Int) + 2)) t199 _ A45.out).mono ?_); rintro e w63 ⟨v200, rfl, ho0, hb⟩; refine ⟨_, rfl, ?_⟩; have n0_ := Aside0.mk (Kd.R_elder' (R_up HO179.out) (Kd.R_base ho0) hb); have n1_ := Aside0.mk (Kd.R_elder' (R_up HO185.out) (Kd.R_base ho0) hb); have n2_ := Aside0.mk (Kd.R_elder' (R_up HO192.out) (Kd.R_base ho0) hb); have n3_ := Aside0.mk (Kd.R_elder' (R_up HO198.out) (Kd.R_base ho0) hb); have n4_ := Aside0.mk (Kd.R_lower (Kd.R_new' (Kd.R_new' (Kd.R_new' (Kd.R_new' ho0 (Kd.R_lt (R_up HO179.out))) (Kd.R_lt (R_up HO185.out))) (Kd.R_lt (R_up HO192.out))) (Kd.R_lt (R_up HO198.out))) (below_size (HB_up HB.out))); have n5_ := Aside0.mk (below_step (HB_up HB.out) hb); clear HO179; clear HO185; clear HO192; clear HO198; clear HB; have HO179 := n0_; have HO185 := n1_; have HO192 := n2_; have HO198 := n3_; have HO201 := n4_; have HB := n5_; clear n0_ n1_ n2_ n3_ n4_ n5_; (try clear hb); (try clear hb2); (try clear hk); (try clear hi); (try clear ho0); obtain ⟨Ao65, co65, eo65⟩ := Kd.R_slice HO201.out; subst eo65) | ((with_reducible refine gate_builtin (b := .copy) (xs := #[.tmp 98, .tmp 102]) rfl ?_); skip; refine Kd.R_copyv (w0 := w) w.heap.size rfl (.tmp 98) (.tmp 102) 24 5 rfl Try.underlying24 info5 (.slice Ao62 y196.length co62) y196 t199 _ _ _ (fun k_ => some k_ ≠ (.slice Ao53 y177.length co53 : Value).ownBlock ∧ some k_ ≠ (.slice Ao56 t183.length co56 : Value).ownBlock ∧ some k_ ≠ (.slice Ao60 t190.length co60 : Value).ownBlock ∧ some k_ ≠ (.slice Ao65 t199.length co65 : Value).ownBlock) rfl rfl ?aO ?aR ?aB ?aS ?_; (case aR => exact C_up (Kd.R_reads' HO201.out).2.2); (case aB => exact (HB_up HB.out)); (case aO => exact (by (with_reducible repeat (first | apply Kd.R_alloc | apply Kd.R_drewN | apply Kd.R_drew)); exact Kd.R_mono HO198.out (fun _ hk => ⟨hk.1.1, ⟨hk.1.2.1, ⟨hk.1.2.2, hk.2⟩⟩⟩))); (case aS => exact (below_size (HB_up HB.out))); intro v203 w64 hv_ ho hb hg hat k_; (rw [← hv_]; clear hv_); rw [← Ny202.out] at ho; have n0_ := Aside0.mk (Kd.R_after (ok := (fun k_ => some k_ ≠ (.slice Ao56 t183.length co56 : Value).ownBlock ∧ some k_ ≠ (.slice Ao60 t190.length co60 : Value).ownBlock ∧ some k_ ≠ (.slice Ao65 t199.length co65 : Value).ownBlock)) (by (with_reducible repeat (first | apply Kd.R_alloc | apply Kd.R_drewN | apply Kd.R_drew)); exact Kd.R_mono HO179.out (fun _ hk => ⟨⟨hk.1.1.1, ⟨hk.1.1.2, hk.2⟩⟩, hk.1.2⟩)) hg hat); have n1_ := Aside0.mk (Kd.R_after (ok := (fun k_ => some k_ ≠ (.slice Ao53 y177.length co53 : Value).ownBlock ∧ some k_ ≠ (.slice Ao60 t190.length co60 : Value).ownBlock ∧ some k_ ≠ (.slice Ao65 t199.length co65 : Value).ownBlock)) (by (with_reducible repeat (first | apply Kd.R_alloc | apply Kd.R_drewN | apply Kd.R_drew)); exact Kd.R_mono HO185.out (fun _ hk => ⟨⟨hk.1.1.1, ⟨hk.1.1.2, hk.2⟩⟩, hk.1.2⟩)) hg hat); have n2_ := Aside0.mk (Kd.R_after (ok := (fun k_ => some k_ ≠ (.slice Ao53 y177.length co53 : Value).ownBlock ∧ some k_ ≠ (.slice Ao56 t183.length co56 : Value).ownBlock ∧ some k_ ≠ (.slice Ao65 t199.length co65 : Value).ownBlock)) (by (with_reducible repeat (first | apply Kd.R_alloc | apply Kd.R_drewN | apply Kd.R_drew)); exact Kd.R_mono HO192.out (fun _ hk => ⟨⟨hk.1.1.1, ⟨hk.1.1.2, hk.2⟩⟩, hk.1.2⟩)) hg hat); have n3_ := Aside0.mk (Kd.R_after (ok := (fun k_ => some k_ ≠ (.slice Ao53 y177.length co53 : Value).ownBlock ∧ some k_ ≠ (.slice Ao56 t183.length co56 : Value).ownBlock ∧ some k_ ≠ (.slice Ao60 t190.length co60 : Value).ownBlock)) (by (with_reducible repeat (first | apply Kd.R_alloc | apply Kd.R_drewN | apply Kd.R_drew)); exact Kd.R_mono HO201.out (fun _ hk => ⟨⟨hk.1.1.1.2, ⟨hk.1.1.2, hk.1.2⟩⟩, hk.2⟩)) hg hat); have n4_ := Aside0.mk (hb); have n5_ := Aside0.mk (ho); clear HO179; clear HO185; clear HO192; clear HO201; clear HB; clear HO198; have HO179 := n0_; have HO185 := n1_; have HO192 := n2_; have HO201 := n3_; have HB := n4_; have HO204 := n5_; clear n0_ n1_ n2_ n3_ n4_ n5_; clear ho hb hg hat; obtain ⟨Ao66, co66, eo66⟩ := Kd.R_slice HO204.out; subst eo66) | ((with_reducible refine gate_callee (f := 74) rfl ?_); refine goesL_ (some 106) rfl rfl Try.func74 (by kernel_rfl) rfl #[.slice Ao66 y202.length co66] rfl (by (try simp only [List.map_toArray, List.map_cons, List.map_nil]); first | done | rfl | (simp only [List.length_drop, List.length_take]; rfl)) ?_; (with_reducible refine (spec_l9Sum.calls k1 _ _ y202 t205 _ ?side1 ?side2 A46.out).mono ?_); (case side1 => exact C_up (Kd.R_reads' HO204.out).2.2); (case side2 => exact (Kd.R_reads' HO204.out).2.1); rintro e w' ⟨rfl, ⟨nd, rfl⟩⟩; refine ⟨_, rfl, ?_⟩) | ((with_reducible refine gate_callee (f := 73) rfl ?_); refine goesL_ (some 107) rfl rfl Try.func73 (by kernel_rfl) rfl #[.int .i64 t205] rfl (by (try simp only [List.map_toArray, List.map_cons, List.map_nil]); first | done | rfl | (simp only [List.length_drop, List.length_take]; rfl)) ?_; (with_reducible refine (spec_l9Two.calls t205 t206 _ A47.out).mono ?_); rintro e w67 ⟨v207, rfl, ho0, hb⟩; refine ⟨_, rfl, ?_⟩; have n0_ := Aside0.mk (Kd.R_elder' (R_up HO179.out) (Kd.R_base ho0) hb); have n1_ := Aside0.mk (Kd.R_elder' (R_up HO185.out) (Kd.R_base ho0) hb); have n2_ := Aside0.mk (Kd.R_elder' (R_up HO192.out) (Kd.R_base ho0) hb); have n3_ := Aside0.mk (Kd.R_elder' (R_up HO201.out) (Kd.R_base ho0) hb); have n4_ := Aside0.mk (Kd.R_elder' (R_up HO204.out) (Kd.R_base ho0) hb); have n5_ := Aside0.mk (Kd.R_lower (Kd.R_new' (Kd.R_new' (Kd.R_new' (Kd.R_new' (Kd.R_new' ho0 (Kd.R_lt (R_up HO179.out))) (Kd.R_lt (R_up HO185.out))) (Kd.R_lt (R_up HO192.out))) (Kd.R_lt (R_up HO201.out))) (Kd.R_lt (R_up HO204.out))) (below_size (HB_up HB.out))); have n6_ := Aside0.mk (below_step (HB_up HB.out) hb); clear HO179; clear HO185; clear HO192; clear HO201; clear HO204; clear HB; have HO179 := n0_; have HO185 := n1_; have HO192 := n2_; have HO201 := n3_; have HO204 := n4_; have HO208 := n5_; have HB := n6_; clear n0_ n1_ n2_ n3_ n4_ n5_ n6_; (try clear hb); (try clear hb2); (try clear hk); (try clear hi); (try clear ho0); obtain ⟨Ao69, co69, eo69⟩ := Kd.R_slice HO208.out; subst eo69) | ((with_reducible refine gate_builtin (b := .append) (xs := #[.tmp 104, .tmp 107]) rfl ?_); at_builtin; refine Kd.R_append_rows (Kd.int .u8) (w0 := w) w.heap.size rfl (.tmp 104) (.tmp 107) 24 5 (.int .u8 0) 1 rfl Try.underlying24 info5 rfl (by decide) (by omega) (.slice Ao66 y202.length co66) y202 t206 _ _ _ (fun k_ => some k_ ≠ (.slice Ao53 y177.length co53 : Value).ownBlock ∧ some k_ ≠ (.slice Ao56 t183.length co56 : Value).ownBlock ∧ some k_ ≠ (.slice Ao60 t190.length co60 : Value).ownBlock ∧ some k_ ≠ (.slice Ao65 t199.length co65 : Value).ownBlock ∧ some k_ ≠ (.slice Ao69 t206.length co69 : Value).ownBlock) (fun _ => False) rfl rfl ?aO ?aR (fun _ _ h => h) (fun _ h => h.elim) ?aF ?aB ?aS ?aL ?_; (case aR => exact C_up (Kd.R_reads' HO208.out).2.2); (case aB => exact (HB_up HB.out)); (case aF => exact (fun k_ hk => ⟨Kd.fresh' (Kd.R_lt (R_up HO179.out)) k_ hk, Kd.fresh' (Kd.R_lt (R_up HO185.out)) k_ hk, Kd.fresh' (Kd.R_lt (R_up HO192.out)) k_ hk, Kd.fresh' (Kd.R_lt (R_up HO201.out)) k_ hk, Kd.fresh' (Kd.R_lt (R_up HO208.out)) k_ hk⟩)); (case aO => exact (by (with_reducible repeat (first | apply Kd.R_alloc | apply Kd.R_drewN | apply Kd.R_drew)); exact Kd.R_mono HO204.out (fun _ hk => ⟨hk.1.1, ⟨hk.1.2.1, ⟨hk.1.2.2.1, ⟨hk.1.2.2.2, hk.2⟩⟩⟩⟩))); (case aS => exact (below_size (HB_up HB.out))); (case aL => have := LMc48.out; omega); intro v210 w68 ho hb hg hat; rw [← Ny209.out] at ho; have n0_ := Aside0.mk (Kd.R_after (ok := (fun k_ => some k_ ≠ (.slice Ao56 t183.length co56 : Value).ownBlock ∧ some k_ ≠ (.slice Ao60 t190.length co60 : Value).ownBlock ∧ some k_ ≠ (.slice Ao65 t199.length co65 : Value).ownBlock ∧ some k_ ≠ (.slice Ao69 t206.length co69 : Value).ownBlock)) (by (with_reducible repeat (first | apply Kd.R_alloc | apply Kd.R_drewN | apply Kd.R_drew)); exact Kd.R_mono HO179.out (fun _ hk => ⟨⟨hk.1.1.1, ⟨hk.1.1.2.1, ⟨hk.1.1.2.2, hk.2⟩⟩⟩, hk.1.2⟩)) hg hat); have n1_ := Aside0.mk (Kd.R_after (ok := (fun k_ => some k_ ≠ (.slice Ao53 y177.length co53 : Value).ownBlock ∧ some k_ ≠ (.slice Ao60 t190.length co60 : Value).ownBlock ∧ some k_ ≠ (.slice Ao65 t199.length co65 : Value).ownBlock ∧ some k_ ≠ (.slice Ao69 t206.length co69 : Value).ownBlock)) (by (with_reducible repeat (first | apply Kd.R_alloc | apply Kd.R_drewN | apply Kd.R_drew)); exact Kd.R_mono HO185.out (fun _ hk => ⟨⟨hk.1.1.1, ⟨hk.1.1.2.1, ⟨hk.1.1.2.2, hk.2⟩⟩⟩, hk.1.2⟩)) hg hat); have n2_ := Aside0.mk (Kd.R_after (ok := (fun k_ => some k_ ≠ (.slice Ao53 y177.length co53 : Value).ownBlock ∧ some k_ ≠ (.slice Ao56 t183.length co56 : Value).ownBlock ∧ some k_ ≠ (.slice Ao65 t199.length co65 : Value).ownBlock ∧ some k_ ≠ (.slice Ao69 t206.length co69 : Value).ownBlock)) (by (with_reducible repeat (first | apply Kd.R_alloc | apply Kd.R_drewN | apply Kd.R_drew)); exact Kd.R_mono HO192.out (fun _ hk => ⟨⟨hk.1.1.1, ⟨hk.1.1.2.1, ⟨hk.1.1.2.2, hk.2⟩⟩⟩, hk.1.2⟩)) hg hat); have n3_ := Aside0.mk (Kd.R_after (ok := (fun k_ => some k_ ≠ (.slice Ao53 y177.length co53 : Value).ownBlock ∧ some k_ ≠ (.slice Ao56 t183.length co56 : Value).ownBlock ∧ some k_ ≠ (.slice Ao60 t190.length co60 : Value).ownBlock ∧ some k_ ≠ (.slice Ao69 t206.length co69 : Value).ownBlock)) (by (with_reducible repeat (first | apply Kd.R_alloc | apply Kd.R_drewN | apply Kd.R_drew)); exact Kd.R_mono HO201.out (fun _ hk => ⟨⟨hk.1.1.1, ⟨hk.1.1.2.1, ⟨hk.1.1.2.2, hk.2⟩⟩⟩, hk.1.2⟩)) hg hat); have n4_ := Aside0.mk (Kd.R_after (ok := (fun k_ => some k_ ≠ (.slice Ao53 y177.length co53 : Value).ownBlock ∧ some k_ ≠ (.slice Ao56 t183.length co56 : Value).ownBlock ∧ some k_ ≠ (.slice Ao60 t190.length co60 : Value).ownBlock ∧ some k_ ≠ (.slice Ao65 t199.length co65 : Value).ownBlock)) (by (with_reducible repeat (first | apply Kd.R_alloc | apply Kd.R_drewN | apply Kd.R_drew)); exact Kd.R_mono HO208.out (fun _ hk => ⟨⟨hk.1.1.1.1.2, ⟨hk.1.1.1.2, ⟨hk.1.1.2, hk.1.2⟩⟩⟩, hk.2⟩)) hg hat); have n5_ := Aside0.mk (hb); have n6_ := Aside0.mk (ho); clear HO179; clear HO185; clear HO192; clear HO201; clear HO208; clear HB; clear HO204; have HO179 := n0_; have HO185 := n1_; have HO192 := n2_; have HO201 := n3_; have HO208 := n4_; have HB := n5_; have HO211 := n6_; clear n0_ n1_ n2_ n3_ n4_ n5_ n6_; clear ho hb hg hat))
        go_ret
        exact ⟨_, by first | rfl | (simp [errW_none, errW_some] <;> rfl) | (simp [*, errW_none, errW_some] <;> rfl), by (with_reducible repeat (first | apply Kd.R_alloc | apply Kd.R_drewN | apply Kd.R_drew)); exact Kd.R_mono HO211.out (fun _ hk => trivial), by repeat (first | (with_reducible first | exact HB.out | apply below_alloc | apply pw_below_drewN | apply below_drew1) | exact HB.out)⟩
 · rw [if_neg c2] at H
   exact absurd H (by simp)

end Go.Proofs.Ytehdbobpbcjmeaa.PFnExactPackOps

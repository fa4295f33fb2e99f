/- Functions of the program as Lean functions, each with the proof that its call comes to what that function says (texts written by a program of this session). Conditions: those that stand in each theorem. -/
import Derived.Test.YtnehephjliankaaDoorPFnExactTermsTextx0
import Derived.Test.YtnehephjliankaaDoorPFnExactTermsTextx8
import Derived.Test.YtnehephjliankaaDoorPFnExactTermsTextx11
import Derived.Test.YtnehephjliankaaDoorPFnExactTermsTextx12
namespace Go.Proofs.YtnehephjliankaaDoor.PFnExactTermsText
open Go.RowKit Go.Proofs.YtnehephjliankaaDoorW.PrintWords Go.Proofs.YtnehephjliankaaDoorW.PrintLast Go.Proofs.YtnehephjliankaaDoorW.PrintMore
attribute [local go_sem] max2_int min2_int max_two min_two max_three min_three max_four min_four   -- for this text's walks alone
set_option linter.unusedVariables false
set_option linter.unusedSimpArgs false

/-! ### impl_termText: function 46 -/
def impl_termText.f : Nat → List (S72) → Int → Option (ByteArray)
 | 0, _, _ => none
 | k + 1, l0, a1 => if 0 ≤ a1 then (if a1 < (l0.length : Int) then ((some (([(⟨#[97, 108, 108]⟩ : ByteArray), (⟨#[102, 108, 97, 103]⟩ : ByteArray), (⟨#[115, 105, 110, 99, 101]⟩ : ByteArray), (⟨#[98, 101, 102, 111, 114, 101]⟩ : ByteArray), (⟨#[108, 97, 114, 103, 101, 114]⟩ : ByteArray), (⟨#[115, 117, 98, 106, 101, 99, 116]⟩ : ByteArray), (⟨#[98, 111, 100, 121]⟩ : ByteArray), (⟨#[117, 105, 100]⟩ : ByteArray), (⟨#[110, 111, 116]⟩ : ByteArray), (⟨#[97, 110, 100]⟩ : ByteArray), (⟨#[111, 114]⟩ : ByteArray)] : List ByteArray) : List ByteArray)).bind fun y401 => (if 0 ≤ (wrap64 (((rd_T72 l0 a1).f0) - 1)) then (if (wrap64 (((rd_T72 l0 a1).f0) - 1)) < (y401.length : Int) then (if ((rd_T72 l0 a1).f0) = 2 then ((impl_flagsText.f k ((rd_T72 l0 a1).f1)).bind fun t405 => (if 1 + t405.size ≤ 9223372036854775807 then (if (rdOf ByteArray.empty y401 (wrap64 (((rd_T72 l0 a1).f0) - 1))).size + ((⟨#[32]⟩ : ByteArray) ++ t405).size ≤ 9223372036854775807 then (some ((rdOf ByteArray.empty y401 (wrap64 (((rd_T72 l0 a1).f0) - 1))) ++ ((⟨#[32]⟩ : ByteArray) ++ t405))) else (none)) else (none))) else ((impl_hasNum.f ((rd_T72 l0 a1).f0)).bind fun t406 => (if t406 = true then ((impl_decimal.f ((rd_T72 l0 a1).f1)).bind fun t407 => (if 1 + t407.size ≤ 9223372036854775807 then (if (rdOf ByteArray.empty y401 (wrap64 (((rd_T72 l0 a1).f0) - 1))).size + ((⟨#[32]⟩ : ByteArray) ++ t407).size ≤ 9223372036854775807 then (some ((rdOf ByteArray.empty y401 (wrap64 (((rd_T72 l0 a1).f0) - 1))) ++ ((⟨#[32]⟩ : ByteArray) ++ t407))) else (none)) else (none))) else ((impl_hasCodes.f ((rd_T72 l0 a1).f0)).bind fun t408 => (if t408 = true then ((impl_encodeChars.f k 4 ((rd_T72 l0 a1).f2)).bind fun t409 => (if 1 + (strOfNums t409).size ≤ 9223372036854775807 then (if (rdOf ByteArray.empty y401 (wrap64 (((rd_T72 l0 a1).f0) - 1))).size + ((⟨#[32]⟩ : ByteArray) ++ (strOfNums t409)).size ≤ 9223372036854775807 then (some ((rdOf ByteArray.empty y401 (wrap64 (((rd_T72 l0 a1).f0) - 1))) ++ ((⟨#[32]⟩ : ByteArray) ++ (strOfNums t409)))) else (none)) else (none))) else (if ((rd_T72 l0 a1).f0) = 8 then ((impl_setText.f k ((rd_T72 l0 a1).f3)).bind fun t412 => (if 1 + t412.size ≤ 9223372036854775807 then (if (rdOf ByteArray.empty y401 (wrap64 (((rd_T72 l0 a1).f0) - 1))).size + ((⟨#[32]⟩ : ByteArray) ++ t412).size ≤ 9223372036854775807 then (some ((rdOf ByteArray.empty y401 (wrap64 (((rd_T72 l0 a1).f0) - 1))) ++ ((⟨#[32]⟩ : ByteArray) ++ t412))) else (none)) else (none))) else (if ((rd_T72 l0 a1).f0) = 9 then ((impl_termText.f k l0 ((rd_T72 l0 a1).f4)).bind fun t413 => (if 1 + t413.size ≤ 9223372036854775807 then (if (rdOf ByteArray.empty y401 (wrap64 (((rd_T72 l0 a1).f0) - 1))).size + ((⟨#[32]⟩ : ByteArray) ++ t413).size ≤ 9223372036854775807 then (some ((rdOf ByteArray.empty y401 (wrap64 (((rd_T72 l0 a1).f0) - 1))) ++ ((⟨#[32]⟩ : ByteArray) ++ t413))) else (none)) else (none))) else (if ((rd_T72 l0 a1).f0) > 9 then ((impl_termText.f k l0 ((rd_T72 l0 a1).f4)).bind fun t414 => (if 1 + t414.size ≤ 9223372036854775807 then (if ((⟨#[32]⟩ : ByteArray) ++ t414).size + 1 ≤ 9223372036854775807 then ((impl_termText.f k l0 ((rd_T72 l0 a1).f5)).bind fun t415 => (if (((⟨#[32]⟩ : ByteArray) ++ t414) ++ (⟨#[32]⟩ : ByteArray)).size + t415.size ≤ 9223372036854775807 then (if (rdOf ByteArray.empty y401 (wrap64 (((rd_T72 l0 a1).f0) - 1))).size + ((((⟨#[32]⟩ : ByteArray) ++ t414) ++ (⟨#[32]⟩ : ByteArray)) ++ t415).size ≤ 9223372036854775807 then (some ((rdOf ByteArray.empty y401 (wrap64 (((rd_T72 l0 a1).f0) - 1))) ++ ((((⟨#[32]⟩ : ByteArray) ++ t414) ++ (⟨#[32]⟩ : ByteArray)) ++ t415))) else (none)) else (none))) else (none)) else (none))) else (some (rdOf ByteArray.empty y401 (wrap64 (((rd_T72 l0 a1).f0) - 1)))))))))))) else (none)) else (none))) else (none)) else (none)
def impl_termText.T14 : Bool × List (List Nat × List Nat) := (true, [([], []), ([], []), ([], []), ([2], [2]), ([1, 3], [1, 3]), ([4], [4]), ([5], [5]), ([], []), ([], []), ([8], [8]), ([7, 9, 4], [7, 9]), ([6, 10], [6, 10]), ([0, 11], [0, 11]), ([12, 10, 0, 1, 2, 3, 4, 5, 6, 7, 8, 9, 10, 11, 12], [0, 12])])
def impl_termText.B14 : List Nat := [0, 0, 0, 4, 14, 30, 62, 0, 0, 256, 926, 2046, 4095, 8191]
theorem impl_termText.tab14 : rtab .any (opsOf Tryd.f46 14) = impl_termText.T14 := by kernel_rfl
theorem impl_termText.bits14 : waitsOk impl_termText.T14.2 impl_termText.B14 = true := by kernel_rfl
set_option maxHeartbeats 8000000 in
set_option maxRecDepth 100000 in
theorem impl_termText.calls (k : Nat) : ∀ (A0 : Option Addr) (c0 : Nat) (l0 : List (S72)) (a1 : Int) (r : ByteArray) (w : World) (hr0 : Kd.C k72 w A0 l0.length l0) (hc0 : l0.length ≤ c0) (hG : GL w) (h : impl_termText.f k l0 a1 = some r),
 Calls Tryd.prog 46 #[.slice A0 l0.length c0, .int .i64 a1] w fun e w' => e = .returned (.string r) ∧ Below w.heap.size w w' := by
 induction k using Nat.strongRecOn with
 | _ k ih =>
 intro A0 c0 l0 a1 r w hr0 hc0 hG h
 cases k with
 | zero => exact absurd h (by simp [impl_termText.f])
 | succ k =>
 simp only [impl_termText.f] at h
 have hu72 := Tryd.underlying72
 have HR0 := Aside0.mk hr0
 have HC0 := Aside0.mk hc0
 clear hr0 hc0
 have HB := Aside0.mk (Below.refl w.heap.size w)
 have HG := Aside0.mk hG
 clear hG
 have H : (if 0 ≤ a1 then (if a1 < (l0.length : Int) then ((some (([(⟨#[97, 108, 108]⟩ : ByteArray), (⟨#[102, 108, 97, 103]⟩ : ByteArray), (⟨#[115, 105, 110, 99, 101]⟩ : ByteArray), (⟨#[98, 101, 102, 111, 114, 101]⟩ : ByteArray), (⟨#[108, 97, 114, 103, 101, 114]⟩ : ByteArray), (⟨#[115, 117, 98, 106, 101, 99, 116]⟩ : ByteArray), (⟨#[98, 111, 100, 121]⟩ : ByteArray), (⟨#[117, 105, 100]⟩ : ByteArray), (⟨#[110, 111, 116]⟩ : ByteArray), (⟨#[97, 110, 100]⟩ : ByteArray), (⟨#[111, 114]⟩ : ByteArray)] : List ByteArray) : List ByteArray)).bind fun y401 => (if 0 ≤ (wrap64 (((rd_T72 l0 a1).f0) - 1)) then (if (wrap64 (((rd_T72 l0 a1).f0) - 1)) < (y401.length : Int) then (if ((rd_T72 l0 a1).f0) = 2 then ((impl_flagsText.f k ((rd_T72 l0 a1).f1)).bind fun t405 => (if 1 + t405.size ≤ 9223372036854775807 then (if (rdOf ByteArray.empty y401 (wrap64 (((rd_T72 l0 a1).f0) - 1))).size + ((⟨#[32]⟩ : ByteArray) ++ t405).size ≤ 9223372036854775807 then (some ((rdOf ByteArray.empty y401 (wrap64 (((rd_T72 l0 a1).f0) - 1))) ++ ((⟨#[32]⟩ : ByteArray) ++ t405))) else (none)) else (none))) else ((impl_hasNum.f ((rd_T72 l0 a1).f0)).bind fun t406 => (if t406 = true then ((impl_decimal.f ((rd_T72 l0 a1).f1)).bind fun t407 => (if 1 + t407.size ≤ 9223372036854775807 then (if (rdOf ByteArray.empty y401 (wrap64 (((rd_T72 l0 a1).f0) - 1))).size + ((⟨#[32]⟩ : ByteArray) ++ t407).size ≤ 9223372036854775807 then (some ((rdOf ByteArray.empty y401 (wrap64 (((rd_T72 l0 a1).f0) - 1))) ++ ((⟨#[32]⟩ : ByteArray) ++ t407))) else (none)) else (none))) else ((impl_hasCodes.f ((rd_T72 l0 a1).f0)).bind fun t408 => (if t408 = true then ((impl_encodeChars.f k 4 ((rd_T72 l0 a1).f2)).bind fun t409 => (if 1 + (strOfNums t409).size ≤ 9223372036854775807 then (if (rdOf ByteArray.empty y401 (wrap64 (((rd_T72 l0 a1).f0) - 1))).size + ((⟨#[32]⟩ : ByteArray) ++ (strOfNums t409)).size ≤ 9223372036854775807 then (some ((rdOf ByteArray.empty y401 (wrap64 (((rd_T72 l0 a1).f0) - 1))) ++ ((⟨#[32]⟩ : ByteArray) ++ (strOfNums t409)))) else (none)) else (none))) else (if ((rd_T72 l0 a1).f0) = 8 then ((impl_setText.f k ((rd_T72 l0 a1).f3)).bind fun t412 => (if 1 + t412.size ≤ 9223372036854775807 then (if (rdOf ByteArray.empty y401 (wrap64 (((rd_T72 l0 a1).f0) - 1))).size + ((⟨#[32]⟩ : ByteArray) ++ t412).size ≤ 9223372036854775807 then (some ((rdOf ByteArray.empty y401 (wrap64 (((rd_T72 l0 a1).f0) - 1))) ++ ((⟨#[32]⟩ : ByteArray) ++ t412))) else (none)) else (none))) else (if ((rd_T72 l0 a1).f0) = 9 then ((impl_termText.f k l0 ((rd_T72 l0 a1).f4)).bind fun t413 => (if 1 + t413.size ≤ 9223372036854775807 then (if (rdOf ByteArray.empty y401 (wrap64 (((rd_T72 l0 a1).f0) - 1))).size + ((⟨#[32]⟩ : ByteArray) ++ t413).size ≤ 9223372036854775807 then (some ((rdOf ByteArray.empty y401 (wrap64 (((rd_T72 l0 a1).f0) - 1))) ++ ((⟨#[32]⟩ : ByteArray) ++ t413))) else (none)) else (none))) else (if ((rd_T72 l0 a1).f0) > 9 then ((impl_termText.f k l0 ((rd_T72 l0 a1).f4)).bind fun t414 => (if 1 + t414.size ≤ 9223372036854775807 then (if ((⟨#[32]⟩ : ByteArray) ++ t414).size + 1 ≤ 9223372036854775807 then ((impl_termText.f k l0 ((rd_T72 l0 a1).f5)).bind fun t415 => (if (((⟨#[32]⟩ : ByteArray) ++ t414) ++ (⟨#[32]⟩ : ByteArray)).size + t415.size ≤ 9223372036854775807 then (if (rdOf ByteArray.empty y401 (wrap64 (((rd_T72 l0 a1).f0) - 1))).size + ((((⟨#[32]⟩ : ByteArray) ++ t414) ++ (⟨#[32]⟩ : ByteArray)) ++ t415).size ≤ 9223372036854775807 then (some ((rdOf ByteArray.empty y401 (wrap64 (((rd_T72 l0 a1).f0) - 1))) ++ ((((⟨#[32]⟩ : ByteArray) ++ t414) ++ (⟨#[32]⟩ : ByteArray)) ++ t415))) else (none)) else (none))) else (none)) else (none))) else (some (rdOf ByteArray.empty y401 (wrap64 (((rd_T72 l0 a1).f0) - 1)))))))))))) else (none)) else (none))) else (none)) else (none)) = some r := h
 clear h
 by_cases c3 : 0 ≤ a1
 · rw [if_pos c3] at H
   have c3b0 : decide (0 ≤ a1) = true := decide_eq_true c3
   clear c3
   by_cases c4 : a1 < (l0.length : Int)
   case neg => rw [if_neg c4] at H; exact absurd H (by simp)
   rw [if_pos c4] at H
   have c4b0 : decide (a1 < (l0.length : Int)) = true := decide_eq_true c4
   clear c4
   obtain ⟨y401, hy401⟩ : ∃ y_ : List ByteArray, y_ = (([(⟨#[97, 108, 108]⟩ : ByteArray), (⟨#[102, 108, 97, 103]⟩ : ByteArray), (⟨#[115, 105, 110, 99, 101]⟩ : ByteArray), (⟨#[98, 101, 102, 111, 114, 101]⟩ : ByteArray), (⟨#[108, 97, 114, 103, 101, 114]⟩ : ByteArray), (⟨#[115, 117, 98, 106, 101, 99, 116]⟩ : ByteArray), (⟨#[98, 111, 100, 121]⟩ : ByteArray), (⟨#[117, 105, 100]⟩ : ByteArray), (⟨#[110, 111, 116]⟩ : ByteArray), (⟨#[97, 110, 100]⟩ : ByteArray), (⟨#[111, 114]⟩ : ByteArray)] : List ByteArray)) := ⟨_, rfl⟩
   replace H : (if 0 ≤ (wrap64 (((rd_T72 l0 a1).f0) - 1)) then (if (wrap64 (((rd_T72 l0 a1).f0) - 1)) < (y401.length : Int) then (if ((rd_T72 l0 a1).f0) = 2 then ((impl_flagsText.f k ((rd_T72 l0 a1).f1)).bind fun t405 => (if 1 + t405.size ≤ 9223372036854775807 then (if (rdOf ByteArray.empty y401 (wrap64 (((rd_T72 l0 a1).f0) - 1))).size + ((⟨#[32]⟩ : ByteArray) ++ t405).size ≤ 9223372036854775807 then (some ((rdOf ByteArray.empty y401 (wrap64 (((rd_T72 l0 a1).f0) - 1))) ++ ((⟨#[32]⟩ : ByteArray) ++ t405))) else (none)) else (none))) else ((impl_hasNum.f ((rd_T72 l0 a1).f0)).bind fun t406 => (if t406 = true then ((impl_decimal.f ((rd_T72 l0 a1).f1)).bind fun t407 => (if 1 + t407.size ≤ 9223372036854775807 then (if (rdOf ByteArray.empty y401 (wrap64 (((rd_T72 l0 a1).f0) - 1))).size + ((⟨#[32]⟩ : ByteArray) ++ t407).size ≤ 9223372036854775807 then (some ((rdOf ByteArray.empty y401 (wrap64 (((rd_T72 l0 a1).f0) - 1))) ++ ((⟨#[32]⟩ : ByteArray) ++ t407))) else (none)) else (none))) else ((impl_hasCodes.f ((rd_T72 l0 a1).f0)).bind fun t408 => (if t408 = true then ((impl_encodeChars.f k 4 ((rd_T72 l0 a1).f2)).bind fun t409 => (if 1 + (strOfNums t409).size ≤ 9223372036854775807 then (if (rdOf ByteArray.empty y401 (wrap64 (((rd_T72 l0 a1).f0) - 1))).size + ((⟨#[32]⟩ : ByteArray) ++ (strOfNums t409)).size ≤ 9223372036854775807 then (some ((rdOf ByteArray.empty y401 (wrap64 (((rd_T72 l0 a1).f0) - 1))) ++ ((⟨#[32]⟩ : ByteArray) ++ (strOfNums t409)))) else (none)) else (none))) else (if ((rd_T72 l0 a1).f0) = 8 then ((impl_setText.f k ((rd_T72 l0 a1).f3)).bind fun t412 => (if 1 + t412.size ≤ 9223372036854775807 then (if (rdOf ByteArray.empty y401 (wrap64 (((rd_T72 l0 a1).f0) - 1))).size + ((⟨#[32]⟩ : ByteArray) ++ t412).size ≤ 9223372036854775807 then (some ((rdOf ByteArray.empty y401 (wrap64 (((rd_T72 l0 a1).f0) - 1))) ++ ((⟨#[32]⟩ : ByteArray) ++ t412))) else (none)) else (none))) else (if ((rd_T72 l0 a1).f0) = 9 then ((impl_termText.f k l0 ((rd_T72 l0 a1).f4)).bind fun t413 => (if 1 + t413.size ≤ 9223372036854775807 then (if (rdOf ByteArray.empty y401 (wrap64 (((rd_T72 l0 a1).f0) - 1))).size + ((⟨#[32]⟩ : ByteArray) ++ t413).size ≤ 9223372036854775807 then (some ((rdOf ByteArray.empty y401 (wrap64 (((rd_T72 l0 a1).f0) - 1))) ++ ((⟨#[32]⟩ : ByteArray) ++ t413))) else (none)) else (none))) else (if ((rd_T72 l0 a1).f0) > 9 then ((impl_termText.f k l0 ((rd_T72 l0 a1).f4)).bind fun t414 => (if 1 + t414.size ≤ 9223372036854775807 then (if ((⟨#[32]⟩ : ByteArray) ++ t414).size + 1 ≤ 9223372036854775807 then ((impl_termText.f k l0 ((rd_T72 l0 a1).f5)).bind fun t415 => (if (((⟨#[32]⟩ : ByteArray) ++ t414) ++ (⟨#[32]⟩ : ByteArray)).size + t415.size ≤ 9223372036854775807 then (if (rdOf ByteArray.empty y401 (wrap64 (((rd_T72 l0 a1).f0) - 1))).size + ((((⟨#[32]⟩ : ByteArray) ++ t414) ++ (⟨#[32]⟩ : ByteArray)) ++ t415).size ≤ 9223372036854775807 then (some ((rdOf ByteArray.empty y401 (wrap64 (((rd_T72 l0 a1).f0) - 1))) ++ ((((⟨#[32]⟩ : ByteArray) ++ t414) ++ (⟨#[32]⟩ : ByteArray)) ++ t415))) else (none)) else (none))) else (none)) else (none))) else (some (rdOf ByteArray.empty y401 (wrap64 (((rd_T72 l0 a1).f0) - 1)))))))))))) else (none)) else (none)) = some r := by first | (rw [hy401]; with_reducible exact H) | (have H2_ := (Option.bind_some _ _).symm.trans H; rw [hy401]; with_reducible exact H2_) | (have H2_ := (Option.bind_some _ _).symm.trans H; with_reducible exact H2_) | with_reducible exact H | (rw [hy401]; exact H) | exact H
   have Ny401 := Aside0.mk hy401
   clear hy401
   obtain ⟨ji5, hji5⟩ : ∃ j_ : Int, (wrap64 (((rd_T72 l0 a1).f0) - 1)) = j_ := ⟨_, rfl⟩
   replace H : (if 0 ≤ (ji5) then (if (ji5) < (y401.length : Int) then (if ((rd_T72 l0 a1).f0) = 2 then ((impl_flagsText.f k ((rd_T72 l0 a1).f1)).bind fun t405 => (if 1 + t405.size ≤ 9223372036854775807 then (if (rdOf ByteArray.empty y401 (ji5)).size + ((⟨#[32]⟩ : ByteArray) ++ t405).size ≤ 9223372036854775807 then (some ((rdOf ByteArray.empty y401 (ji5)) ++ ((⟨#[32]⟩ : ByteArray) ++ t405))) else (none)) else (none))) else ((impl_hasNum.f ((rd_T72 l0 a1).f0)).bind fun t406 => (if t406 = true then ((impl_decimal.f ((rd_T72 l0 a1).f1)).bind fun t407 => (if 1 + t407.size ≤ 9223372036854775807 then (if (rdOf ByteArray.empty y401 (ji5)).size + ((⟨#[32]⟩ : ByteArray) ++ t407).size ≤ 9223372036854775807 then (some ((rdOf ByteArray.empty y401 (ji5)) ++ ((⟨#[32]⟩ : ByteArray) ++ t407))) else (none)) else (none))) else ((impl_hasCodes.f ((rd_T72 l0 a1).f0)).bind fun t408 => (if t408 = true then ((impl_encodeChars.f k 4 ((rd_T72 l0 a1).f2)).bind fun t409 => (if 1 + (strOfNums t409).size ≤ 9223372036854775807 then (if (rdOf ByteArray.empty y401 (ji5)).size + ((⟨#[32]⟩ : ByteArray) ++ (strOfNums t409)).size ≤ 9223372036854775807 then (some ((rdOf ByteArray.empty y401 (ji5)) ++ ((⟨#[32]⟩ : ByteArray) ++ (strOfNums t409)))) else (none)) else (none))) else (if ((rd_T72 l0 a1).f0) = 8 then ((impl_setText.f k ((rd_T72 l0 a1).f3)).bind fun t412 => (if 1 + t412.size ≤ 9223372036854775807 then (if (rdOf ByteArray.empty y401 (ji5)).size + ((⟨#[32]⟩ : ByteArray) ++ t412).size ≤ 9223372036854775807 then (some ((rdOf ByteArray.empty y401 (ji5)) ++ ((⟨#[32]⟩ : ByteArray) ++ t412))) else (none)) else (none))) else (if ((rd_T72 l0 a1).f0) = 9 then ((impl_termText.f k l0 ((rd_T72 l0 a1).f4)).bind fun t413 => (if 1 + t413.size ≤ 9223372036854775807 then (if (rdOf ByteArray.empty y401 (ji5)).size + ((⟨#[32]⟩ : ByteArray) ++ t413).size ≤ 9223372036854775807 then (some ((rdOf ByteArray.empty y401 (ji5)) ++ ((⟨#[32]⟩ : ByteArray) ++ t413))) else (none)) else (none))) else (if ((rd_T72 l0 a1).f0) > 9 then ((impl_termText.f k l0 ((rd_T72 l0 a1).f4)).bind fun t414 => (if 1 + t414.size ≤ 9223372036854775807 then (if ((⟨#[32]⟩ : ByteArray) ++ t414).size + 1 ≤ 9223372036854775807 then ((impl_termText.f k l0 ((rd_T72 l0 a1).f5)).bind fun t415 => (if (((⟨#[32]⟩ : ByteArray) ++ t414) ++ (⟨#[32]⟩ : ByteArray)).size + t415.size ≤ 9223372036854775807 then (if (rdOf ByteArray.empty y401 (ji5)).size + ((((⟨#[32]⟩ : ByteArray) ++ t414) ++ (⟨#[32]⟩ : ByteArray)) ++ t415).size ≤ 9223372036854775807 then (some ((rdOf ByteArray.empty y401 (ji5)) ++ ((((⟨#[32]⟩ : ByteArray) ++ t414) ++ (⟨#[32]⟩ : ByteArray)) ++ t415))) else (none)) else (none))) else (none)) else (none))) else (some (rdOf ByteArray.empty y401 (ji5))))))))))) else (none)) else (none)) = some r := by first | (rw [hji5] at H; exact H) | (simp only [hji5] at H ⊢; exact H)
   have hji5w : (IntKind.i64.wrap (((rd_T72 l0 a1).f0) - 1)) = ji5 := (i64_w _).trans hji5
   by_cases c6 : 0 ≤ (ji5)
   case neg => rw [if_neg c6] at H; exact absurd H (by simp)
   rw [if_pos c6] at H
   have c6b0 : decide (0 ≤ (ji5)) = true := decide_eq_true c6
   clear c6
   by_cases c7 : (ji5) < (y401.length : Int)
   case neg => rw [if_neg c7] at H; exact absurd H (by simp)
   rw [if_pos c7] at H
   have c7b0 : decide ((ji5) < (y401.length : Int)) = true := decide_eq_true c7
   clear c7
   by_cases c8 : ((rd_T72 l0 a1).f0) = 2
   · rw [if_pos c8] at H
     have c8b0 : (((rd_T72 l0 a1).f0) == 2) = true := beq_iff_eq.mpr c8
     have c8b1 : (((rd_T72 l0 a1).f0) != 2) = false := bne_eq_false_iff_eq.mpr c8
     clear c8
     replace H := Option.bind_eq_some_iff.mp H
     obtain ⟨t405, A90, H⟩ := H
     (try dsimp only at H)
     have A9 := Aside0.mk A90
     clear A90
     by_cases c10 : 1 + t405.size ≤ 9223372036854775807
     case neg => rw [if_neg c10] at H; exact absurd H (by simp)
     rw [if_pos c10] at H
     have c10b0 := eq_true c10
     have c10b1 : decide (1 + t405.size ≤ 9223372036854775807) = true := decide_eq_true c10
     try have c10b2 : (9223372036854775807 < 1 + t405.size) = False := eq_false (Nat.not_lt.2 c10)
     by_cases c11 : (rdOf ByteArray.empty y401 (ji5)).size + ((⟨#[32]⟩ : ByteArray) ++ t405).size ≤ 9223372036854775807
     case neg => rw [if_neg c11] at H; exact absurd H (by simp)
     rw [if_pos c11] at H
     have c11b0 := eq_true c11
     have c11b1 : decide ((rdOf ByteArray.empty y401 (ji5)).size + ((⟨#[32]⟩ : ByteArray) ++ t405).size ≤ 9223372036854775807) = true := decide_eq_true c11
     try have c11b2 : (9223372036854775807 < (rdOf ByteArray.empty y401 (ji5)).size + ((⟨#[32]⟩ : ByteArray) ++ t405).size) = False := eq_false (Nat.not_lt.2 c11)
     (try (have c11b3 := c11b2; simp only [ByteArray.size_append] at c11b3))
     (try (have c11b4 : (9223372036854775807 < (rdOf ByteArray.empty y401 (ji5)).size + (1 + t405.size)) = False := eq_false (by have h_ := c11; simp only [ByteArray.size_append] at h_; have e0_ : (⟨#[32]⟩ : ByteArray).size = 1 := rfl; omega)))
     obtain rfl := Option.some.inj H
     have p399 : 0 ≤ (a1 : Int) := of_decide_eq_true (by first | (with_reducible assumption) | assumption)
     have q399 : a1 < (l0.length : Int) := of_decide_eq_true (by first | (with_reducible assumption) | assumption)
     obtain ⟨ad399, A399_2, c399_2, A399_3, c399_3, e399, hx399_0, hx399_1, hx399_2, hx399_3, hx399_4, hx399_5, hl399_2, hi399_2, hl399_3, hi399_3⟩ := at_T72 HR0.out a1 p399 q399
     cases e399
     have HR399_2 := Aside0.mk hi399_2
     have HC399_2 := Aside0.mk hl399_2
     clear hi399_2 hl399_2
     have HR399_3 := Aside0.mk hi399_3
     have HC399_3 := Aside0.mk hl399_3
     clear hi399_3 hl399_3
     replace p399 := eq_true p399
     replace q399 := eq_true q399
     go_enter Tryd.func46, Tryd.ntmps46
     go_wp2_with (first | ((with_reducible refine gate_dst (N := 5) rfl ?_); refine box_event ?hg (N := 5) ?hd (cs := #[.int .i64 0, .int .i64 0, .slice none 0 0, .slice none 0 0, .int .i64 0, .int .i64 0]) (t := 72) ?hr ?_; (case hd => rfl); (case hg => rfl); (case hr => first | (go_simp; done) | (go_simp; rfl)); intro gb400 hg w12 hbox hb; have n0_ := Aside0.mk (below_step (HB_up HB.out) hb); have n1_ := Aside0.mk (hbox); have n2_ := Aside0.mk ((by rw [hg]; exact (below_size (HB_up HB.out)) : w.heap.size ≤ gb400)); have n3_ := Aside0.mk ((by rw [hg]; exact (below_size (HB_up HB.out)) : w.heap.size ≤ gb400)); clear HB; have HB := n0_; have BK400 := n1_; have GW400 := n2_; have GE400 := n3_; clear n0_ n1_ n2_ n3_; clear hb hbox hg; have hcz13_0 : w12.cell? ⟨gb400, 0, none⟩ = some (.int .i64 0) := (blk_cell BK400.out 0).trans rfl; have hcz13_1 : w12.cell? ⟨gb400, 1, none⟩ = some (.int .i64 0) := (blk_cell BK400.out 1).trans rfl; have hcz13_2 : w12.cell? ⟨gb400, 2, none⟩ = some (.slice none 0 0) := (blk_cell BK400.out 2).trans rfl; have hcz13_3 : w12.cell? ⟨gb400, 3, none⟩ = some (.slice none 0 0) := (blk_cell BK400.out 3).trans rfl; have hcz13_4 : w12.cell? ⟨gb400, 4, none⟩ = some (.int .i64 0) := (blk_cell BK400.out 4).trans rfl; have hcz13_5 : w12.cell? ⟨gb400, 5, none⟩ = some (.int .i64 0) := (blk_cell BK400.out 5).trans rfl; have hfz13_0 := blk_frozen BK400.out 0; have hfz13_1 := blk_frozen BK400.out 1; have hfz13_2 := blk_frozen BK400.out 2; have hfz13_3 := blk_frozen BK400.out 3; have hfz13_4 := blk_frozen BK400.out 4; have hfz13_5 := blk_frozen BK400.out 5) | ((with_reducible refine gate_dst (N := 11) rfl ?_); refine Kd.R_lit Kd.string _ 9 ?hg (N := 11) ?hd (xs := ([(⟨#[97, 108, 108]⟩ : ByteArray), (⟨#[102, 108, 97, 103]⟩ : ByteArray), (⟨#[115, 105, 110, 99, 101]⟩ : ByteArray), (⟨#[98, 101, 102, 111, 114, 101]⟩ : ByteArray), (⟨#[108, 97, 114, 103, 101, 114]⟩ : ByteArray), (⟨#[115, 117, 98, 106, 101, 99, 116]⟩ : ByteArray), (⟨#[98, 111, 100, 121]⟩ : ByteArray), (⟨#[117, 105, 100]⟩ : ByteArray), (⟨#[110, 111, 116]⟩ : ByteArray), (⟨#[97, 110, 100]⟩ : ByteArray), (⟨#[111, 114]⟩ : ByteArray)] : List ByteArray)) (inner := [.string (⟨#[97, 108, 108]⟩ : ByteArray), .string (⟨#[102, 108, 97, 103]⟩ : ByteArray), .string (⟨#[115, 105, 110, 99, 101]⟩ : ByteArray), .string (⟨#[98, 101, 102, 111, 114, 101]⟩ : ByteArray), .string (⟨#[108, 97, 114, 103, 101, 114]⟩ : ByteArray), .string (⟨#[115, 117, 98, 106, 101, 99, 116]⟩ : ByteArray), .string (⟨#[98, 111, 100, 121]⟩ : ByteArray), .string (⟨#[117, 105, 100]⟩ : ByteArray), .string (⟨#[110, 111, 116]⟩ : ByteArray), .string (⟨#[97, 110, 100]⟩ : ByteArray), .string (⟨#[111, 114]⟩ : ByteArray)]) (ok := fun _ => True) (okp := fun _ => True) ?hr ?hp (fun _ hk => hk) trivial (Below.refl _ _) (Nat.le_refl _) (by simp) ?_; (case hd => rfl); (case hg => rfl); (case hr => first | (go_simp; done) | (go_simp; rfl)); (case hp => exact (Reps.one (show Kd.M Kd.string _ _ _ (⟨#[97, 108, 108]⟩ : ByteArray) [.string (⟨#[97, 108, 108]⟩ : ByteArray)] from rfl) (Reps.one (show Kd.M Kd.string _ _ _ (⟨#[102, 108, 97, 103]⟩ : ByteArray) [.string (⟨#[102, 108, 97, 103]⟩ : ByteArray)] from rfl) (Reps.one (show Kd.M Kd.string _ _ _ (⟨#[115, 105, 110, 99, 101]⟩ : ByteArray) [.string (⟨#[115, 105, 110, 99, 101]⟩ : ByteArray)] from rfl) (Reps.one (show Kd.M Kd.string _ _ _ (⟨#[98, 101, 102, 111, 114, 101]⟩ : ByteArray) [.string (⟨#[98, 101, 102, 111, 114, 101]⟩ : ByteArray)] from rfl) (Reps.one (show Kd.M Kd.string _ _ _ (⟨#[108, 97, 114, 103, 101, 114]⟩ : ByteArray) [.string (⟨#[108, 97, 114, 103, 101, 114]⟩ : ByteArray)] from rfl) (Reps.one (show Kd.M Kd.string _ _ _ (⟨#[115, 117, 98, 106, 101, 99, 116]⟩ : ByteArray) [.string (⟨#[115, 117, 98, 106, 101, 99, 116]⟩ : ByteArray)] from rfl) (Reps.one (show Kd.M Kd.string _ _ _ (⟨#[98, 111, 100, 121]⟩ : ByteArray) [.string (⟨#[98, 111, 100, 121]⟩ : ByteArray)] from rfl) (Reps.one (show Kd.M Kd.string _ _ _ (⟨#[117, 105, 100]⟩ : ByteArray) [.string (⟨#[117, 105, 100]⟩ : ByteArray)] from rfl) (Reps.one (show Kd.M Kd.string _ _ _ (⟨#[110, 111, 116]⟩ : ByteArray) [.string (⟨#[110, 111, 116]⟩ : ByteArray)] from rfl) (Reps.one (show Kd.M Kd.string _ _ _ (⟨#[97, 110, 100]⟩ : ByteArray) [.string (⟨#[97, 110, 100]⟩ : ByteArray)] from rfl) (Reps.one (show Kd.M Kd.string _ _ _ (⟨#[111, 114]⟩ : ByteArray) [.string (⟨#[111, 114]⟩ : ByteArray)] from rfl) (Reps.none _ _))))))))))))); intro v402 w14 ho15 hb hg_ hnew_; clear hg_ hnew_; (first | rw [← Ny401.out] at ho15 | (simp only [Int.reduceToNat] at ho15; rw [← Ny401.out] at ho15)); have n0_ := Aside0.mk (Kd.R_lower ho15 (below_size (by repeat (first | (with_reducible first | exact HB.out | apply below_alloc | apply pw_below_drewN | apply below_drew1 | refine below_set ?_ GE400.out) | exact HB.out)))); have n1_ := Aside0.mk (blk_below (g := gb400) (o := .cells #[.int .i64 ((rd_T72 l0 a1).f0), .int .i64 ((rd_T72 l0 a1).f1), .slice A399_2 ((rd_T72 l0 a1).f2).length c399_2, .slice A399_3 ((rd_T72 l0 a1).f3).length c399_3, .int .i64 ((rd_T72 l0 a1).f4), .int .i64 ((rd_T72 l0 a1).f5)] 72 (0, 0)) (by (with_reducible repeat (first | refine blk_drewN ?_ _ | refine blk_drew ?_ | refine blk_alloc ?_ _)); refine blk_put (cs := #[.int .i64 ((rd_T72 l0 a1).f0), .int .i64 ((rd_T72 l0 a1).f1), .slice A399_2 ((rd_T72 l0 a1).f2).length c399_2, .slice A399_3 ((rd_T72 l0 a1).f3).length c399_3, .int .i64 ((rd_T72 l0 a1).f4), .int .i64 0]) ?_ 5 _ rfl; (with_reducible repeat (first | refine blk_drewN ?_ _ | refine blk_drew ?_ | refine blk_alloc ?_ _)); refine blk_put (cs := #[.int .i64 ((rd_T72 l0 a1).f0), .int .i64 ((rd_T72 l0 a1).f1), .slice A399_2 ((rd_T72 l0 a1).f2).length c399_2, .slice A399_3 ((rd_T72 l0 a1).f3).length c399_3, .int .i64 0, .int .i64 0]) ?_ 4 _ rfl; (with_reducible repeat (first | refine blk_drewN ?_ _ | refine blk_drew ?_ | refine blk_alloc ?_ _)); refine blk_put (cs := #[.int .i64 ((rd_T72 l0 a1).f0), .int .i64 ((rd_T72 l0 a1).f1), .slice A399_2 ((rd_T72 l0 a1).f2).length c399_2, .slice none 0 0, .int .i64 0, .int .i64 0]) ?_ 3 _ rfl; (with_reducible repeat (first | refine blk_drewN ?_ _ | refine blk_drew ?_ | refine blk_alloc ?_ _)); refine blk_put (cs := #[.int .i64 ((rd_T72 l0 a1).f0), .int .i64 ((rd_T72 l0 a1).f1), .slice none 0 0, .slice none 0 0, .int .i64 0, .int .i64 0]) ?_ 2 _ rfl; (with_reducible repeat (first | refine blk_drewN ?_ _ | refine blk_drew ?_ | refine blk_alloc ?_ _)); refine blk_put (cs := #[.int .i64 ((rd_T72 l0 a1).f0), .int .i64 0, .slice none 0 0, .slice none 0 0, .int .i64 0, .int .i64 0]) ?_ 1 _ rfl; (with_reducible repeat (first | refine blk_drewN ?_ _ | refine blk_drew ?_ | refine blk_alloc ?_ _)); refine blk_put (cs := #[.int .i64 0, .int .i64 0, .slice none 0 0, .slice none 0 0, .int .i64 0, .int .i64 0]) ?_ 0 _ rfl; (with_reducible repeat (first | refine blk_drewN ?_ _ | refine blk_drew ?_ | refine blk_alloc ?_ _)); exact BK400.out) hb); have n2_ := Aside0.mk (below_step (by repeat (first | (with_reducible first | exact HB.out | apply below_alloc | apply pw_below_drewN | apply below_drew1 | refine below_set ?_ GE400.out) | exact HB.out)) hb); clear BK400; clear HB; have HO403 := n0_; have BK400 := n1_; have HB := n2_; clear n0_ n1_ n2_; clear hb ho15; have hcz16_0 : w14.cell? ⟨gb400, 0, none⟩ = some (.int .i64 ((rd_T72 l0 a1).f0)) := (blk_cell BK400.out 0).trans rfl; have hcz16_1 : w14.cell? ⟨gb400, 1, none⟩ = some (.int .i64 ((rd_T72 l0 a1).f1)) := (blk_cell BK400.out 1).trans rfl; have hcz16_2 : w14.cell? ⟨gb400, 2, none⟩ = some (.slice A399_2 ((rd_T72 l0 a1).f2).length c399_2) := (blk_cell BK400.out 2).trans rfl; have hcz16_3 : w14.cell? ⟨gb400, 3, none⟩ = some (.slice A399_3 ((rd_T72 l0 a1).f3).length c399_3) := (blk_cell BK400.out 3).trans rfl; have hcz16_4 : w14.cell? ⟨gb400, 4, none⟩ = some (.int .i64 ((rd_T72 l0 a1).f4)) := (blk_cell BK400.out 4).trans rfl; have hcz16_5 : w14.cell? ⟨gb400, 5, none⟩ = some (.int .i64 ((rd_T72 l0 a1).f5)) := (blk_cell BK400.out 5).trans rfl; have hfz16_0 := blk_frozen BK400.out 0; have hfz16_1 := blk_frozen BK400.out 1; have hfz16_2 := blk_frozen BK400.out 2; have hfz16_3 := blk_frozen BK400.out 3; have hfz16_4 := blk_frozen BK400.out 4; have hfz16_5 := blk_frozen BK400.out 5; obtain ⟨Ao17, co17, eo17⟩ := Kd.R_slice HO403.out; subst eo17; have p404 : 0 ≤ ((ji5) : Int) := of_decide_eq_true (by first | (with_reducible assumption) | assumption); have q404 : (ji5) < (y401.length : Int) := of_decide_eq_true (by first | (with_reducible assumption) | assumption); obtain ⟨ad404, e404, hx404_0⟩ := Kd.at_string (Kd.R_reads' HO403.out).2.2 (ji5) p404 q404; cases e404; replace p404 := eq_true p404; replace q404 := eq_true q404) | ((with_reducible refine gate_callee (f := 80) rfl ?_); refine goesL_ (some 24) rfl rfl Tryd.func80 (by kernel_rfl) rfl #[.int .i64 ((rd_T72 l0 a1).f1)] rfl (by (try simp only [List.map_toArray, List.map_cons, List.map_nil]); first | done | rfl | (simp only [List.length_drop, List.length_take]; rfl)) ?_; (with_reducible refine (impl_flagsText.calls k ((rd_T72 l0 a1).f1) t405 _ A9.out).mono ?_); rintro e w18 ⟨rfl, hb⟩; refine ⟨_, rfl, ?_⟩; have n0_ := Aside0.mk (Kd.R_below (R_up HO403.out) hb); have n1_ := Aside0.mk (blk_below (g := gb400) (blk_up BK400.out) hb); have n2_ := Aside0.mk (below_step (by repeat (first | (with_reducible first | exact HB.out | apply below_alloc | apply pw_below_drewN | apply below_drew1 | refine below_set ?_ GE400.out) | exact HB.out)) hb); clear HO403; clear BK400; clear HB; have HO403 := n0_; have BK400 := n1_; have HB := n2_; clear n0_ n1_ n2_; (try clear hb); (try clear hb2); (try clear hk); (try clear hi)))
     go_ret
     exact ⟨by first | rfl | (simp [errW_none, errW_some] <;> rfl) | (simp only [← hji5]; first | rfl | (simp [errW_none, errW_some] <;> rfl)) | (simp [*, errW_none, errW_some] <;> rfl), by repeat (first | (with_reducible first | exact HB.out | apply below_alloc | apply pw_below_drewN | apply below_drew1 | refine below_set ?_ GE400.out) | exact HB.out)⟩
   · rw [if_neg c8] at H
     have c8b0 : (((rd_T72 l0 a1).f0) == 2) = false := beq_eq_false_iff_ne.mpr c8
     have c8b1 : (((rd_T72 l0 a1).f0) != 2) = true := bne_iff_ne.mpr c8
     replace H := Option.bind_eq_some_iff.mp H
     obtain ⟨t406, A190, H⟩ := H
     (try dsimp only at H)
     have A19 := Aside0.mk A190
     clear A190
     by_cases c20 : t406 = true
     · subst c20
       (try rw [if_pos rfl] at H)
       replace H := Option.bind_eq_some_iff.mp H
       obtain ⟨t407, A210, H⟩ := H
       (try dsimp only at H)
       have A21 := Aside0.mk A210
       clear A210
       by_cases c22 : 1 + t407.size ≤ 9223372036854775807
       case neg => rw [if_neg c22] at H; exact absurd H (by simp)
       rw [if_pos c22] at H
       have c22b0 := eq_true c22
       have c22b1 : decide (1 + t407.size ≤ 9223372036854775807) = true := decide_eq_true c22
       try have c22b2 : (9223372036854775807 < 1 + t407.size) = False := eq_false (Nat.not_lt.2 c22)
       by_cases c23 : (rdOf ByteArray.empty y401 (ji5)).size + ((⟨#[32]⟩ : ByteArray) ++ t407).size ≤ 9223372036854775807
       case neg => rw [if_neg c23] at H; exact absurd H (by simp)
       rw [if_pos c23] at H
       have c23b0 := eq_true c23
       have c23b1 : decide ((rdOf ByteArray.empty y401 (ji5)).size + ((⟨#[32]⟩ : ByteArray) ++ t407).size ≤ 9223372036854775807) = true := decide_eq_true c23
       try have c23b2 : (9223372036854775807 < (rdOf ByteArray.empty y401 (ji5)).size + ((⟨#[32]⟩ : ByteArray) ++ t407).size) = False := eq_false (Nat.not_lt.2 c23)
       (try (have c23b3 := c23b2; simp only [ByteArray.size_append] at c23b3))
       (try (have c23b4 : (9223372036854775807 < (rdOf ByteArray.empty y401 (ji5)).size + (1 + t407.size)) = False := eq_false (by have h_ := c23; simp only [ByteArray.size_append] at h_; have e0_ : (⟨#[32]⟩ : ByteArray).size = 1 := rfl; omega)))
       obtain rfl := Option.some.inj H
       have p399 : 0 ≤ (a1 : Int) := of_decide_eq_true (by first | (with_reducible assumption) | assumption)
       have q399 : a1 < (l0.length : Int) := of_decide_eq_true (by first | (with_reducible assumption) | assumption)
       obtain ⟨ad399, A399_2, c399_2, A399_3, c399_3, e399, hx399_0, hx399_1, hx399_2, hx399_3, hx399_4, hx399_5, hl399_2, hi399_2, hl399_3, hi399_3⟩ := at_T72 HR0.out a1 p399 q399
       cases e399
       have HR399_2 := Aside0.mk hi399_2
       have HC399_2 := Aside0.mk hl399_2
       clear hi399_2 hl399_2
       have HR399_3 := Aside0.mk hi399_3
       have HC399_3 := Aside0.mk hl399_3
       clear hi399_3 hl399_3
       replace p399 := eq_true p399
       replace q399 := eq_true q399
       go_enter Tryd.func46, Tryd.ntmps46
       go_wp2_with (first | ((with_reducible refine gate_dst (N := 5) rfl ?_); refine box_event ?hg (N := 5) ?hd (cs := #[.int .i64 0, .int .i64 0, .slice none 0 0, .slice none 0 0, .int .i64 0, .int .i64 0]) (t := 72) ?hr ?_; (case hd => rfl); (case hg => rfl); (case hr => first | (go_simp; done) | (go_simp; rfl)); intro gb400 hg w24 hbox hb; have n0_ := Aside0.mk (below_step (HB_up HB.out) hb); have n1_ := Aside0.mk (hbox); have n2_ := Aside0.mk ((by rw [hg]; exact (below_size (HB_up HB.out)) : w.heap.size ≤ gb400)); have n3_ := Aside0.mk ((by rw [hg]; exact (below_size (HB_up HB.out)) : w.heap.size ≤ gb400)); clear HB; have HB := n0_; have BK400 := n1_; have GW400 := n2_; have GE400 := n3_; clear n0_ n1_ n2_ n3_; clear hb hbox hg; have hcz25_0 : w24.cell? ⟨gb400, 0, none⟩ = some (.int .i64 0) := (blk_cell BK400.out 0).trans rfl; have hcz25_1 : w24.cell? ⟨gb400, 1, none⟩ = some (.int .i64 0) := (blk_cell BK400.out 1).trans rfl; have hcz25_2 : w24.cell? ⟨gb400, 2, none⟩ = some (.slice none 0 0) := (blk_cell BK400.out 2).trans rfl; have hcz25_3 : w24.cell? ⟨gb400, 3, none⟩ = some (.slice none 0 0) := (blk_cell BK400.out 3).trans rfl; have hcz25_4 : w24.cell? ⟨gb400, 4, none⟩ = some (.int .i64 0) := (blk_cell BK400.out 4).trans rfl; have hcz25_5 : w24.cell? ⟨gb400, 5, none⟩ = some (.int .i64 0) := (blk_cell BK400.out 5).trans rfl; have hfz25_0 := blk_frozen BK400.out 0; have hfz25_1 := blk_frozen BK400.out 1; have hfz25_2 := blk_frozen BK400.out 2; have hfz25_3 := blk_frozen BK400.out 3; have hfz25_4 := blk_frozen BK400.out 4; have hfz25_5 := blk_frozen BK400.out 5) | ((with_reducible refine gate_dst (N := 11) rfl ?_); refine Kd.R_lit Kd.string _ 9 ?hg (N := 11) ?hd (xs := ([(⟨#[97, 108, 108]⟩ : ByteArray), (⟨#[102, 108, 97, 103]⟩ : ByteArray), (⟨#[115, 105, 110, 99, 101]⟩ : ByteArray), (⟨#[98, 101, 102, 111, 114, 101]⟩ : ByteArray), (⟨#[108, 97, 114, 103, 101, 114]⟩ : ByteArray), (⟨#[115, 117, 98, 106, 101, 99, 116]⟩ : ByteArray), (⟨#[98, 111, 100, 121]⟩ : ByteArray), (⟨#[117, 105, 100]⟩ : ByteArray), (⟨#[110, 111, 116]⟩ : ByteArray), (⟨#[97, 110, 100]⟩ : ByteArray), (⟨#[111, 114]⟩ : ByteArray)] : List ByteArray)) (inner := [.string (⟨#[97, 108, 108]⟩ : ByteArray), .string (⟨#[102, 108, 97, 103]⟩ : ByteArray), .string (⟨#[115, 105, 110, 99, 101]⟩ : ByteArray), .string (⟨#[98, 101, 102, 111, 114, 101]⟩ : ByteArray), .string (⟨#[108, 97, 114, 103, 101, 114]⟩ : ByteArray), .string (⟨#[115, 117, 98, 106, 101, 99, 116]⟩ : ByteArray), .string (⟨#[98, 111, 100, 121]⟩ : ByteArray), .string (⟨#[117, 105, 100]⟩ : ByteArray), .string (⟨#[110, 111, 116]⟩ : ByteArray), .string (⟨#[97, 110, 100]⟩ : ByteArray), .string (⟨#[111, 114]⟩ : ByteArray)]) (ok := fun _ => True) (okp := fun _ => True) ?hr ?hp (fun _ hk => hk) trivial (Below.refl _ _) (Nat.le_refl _) (by simp) ?_; (case hd => rfl); (case hg => rfl); (case hr => first | (go_simp; done) | (go_simp; rfl)); (case hp => exact (Reps.one (show Kd.M Kd.string _ _ _ (⟨#[97, 108, 108]⟩ : ByteArray) [.string (⟨#[97, 108, 108]⟩ : ByteArray)] from rfl) (Reps.one (show Kd.M Kd.string _ _ _ (⟨#[102, 108, 97, 103]⟩ : ByteArray) [.string (⟨#[102, 108, 97, 103]⟩ : ByteArray)] from rfl) (Reps.one (show Kd.M Kd.string _ _ _ (⟨#[115, 105, 110, 99, 101]⟩ : ByteArray) [.string (⟨#[115, 105, 110, 99, 101]⟩ : ByteArray)] from rfl) (Reps.one (show Kd.M Kd.string _ _ _ (⟨#[98, 101, 102, 111, 114, 101]⟩ : ByteArray) [.string (⟨#[98, 101, 102, 111, 114, 101]⟩ : ByteArray)] from rfl) (Reps.one (show Kd.M Kd.string _ _ _ (⟨#[108, 97, 114, 103, 101, 114]⟩ : ByteArray) [.string (⟨#[108, 97, 114, 103, 101, 114]⟩ : ByteArray)] from rfl) (Reps.one (show Kd.M Kd.string _ _ _ (⟨#[115, 117, 98, 106, 101, 99, 116]⟩ : ByteArray) [.string (⟨#[115, 117, 98, 106, 101, 99, 116]⟩ : ByteArray)] from rfl) (Reps.one (show Kd.M Kd.string _ _ _ (⟨#[98, 111, 100, 121]⟩ : ByteArray) [.string (⟨#[98, 111, 100, 121]⟩ : ByteArray)] from rfl) (Reps.one (show Kd.M Kd.string _ _ _ (⟨#[117, 105, 100]⟩ : ByteArray) [.string (⟨#[117, 105, 100]⟩ : ByteArray)] from rfl) (Reps.one (show Kd.M Kd.string _ _ _ (⟨#[110, 111, 116]⟩ : ByteArray) [.string (⟨#[110, 111, 116]⟩ : ByteArray)] from rfl) (Reps.one (show Kd.M Kd.string _ _ _ (⟨#[97, 110, 100]⟩ : ByteArray) [.string (⟨#[97, 110, 100]⟩ : ByteArray)] from rfl) (Reps.one (show Kd.M Kd.string _ _ _ (⟨#[111, 114]⟩ : ByteArray) [.string (⟨#[111, 114]⟩ : ByteArray)] from rfl) (Reps.none _ _))))))))))))); intro v402 w26 ho27 hb hg_ hnew_; clear hg_ hnew_; (first | rw [← Ny401.out] at ho27 | (simp only [Int.reduceToNat] at ho27; rw [← Ny401.out] at ho27)); have n0_ := Aside0.mk (Kd.R_lower ho27 (below_size (by repeat (first | (with_reducible first | exact HB.out | apply below_alloc | apply pw_below_drewN | apply below_drew1 | refine below_set ?_ GE400.out) | exact HB.out)))); have n1_ := Aside0.mk (blk_below (g := gb400) (o := .cells #[.int .i64 ((rd_T72 l0 a1).f0), .int .i64 ((rd_T72 l0 a1).f1), .slice A399_2 ((rd_T72 l0 a1).f2).length c399_2, .slice A399_3 ((rd_T72 l0 a1).f3).length c399_3, .int .i64 ((rd_T72 l0 a1).f4), .int .i64 ((rd_T72 l0 a1).f5)] 72 (0, 0)) (by (with_reducible repeat (first | refine blk_drewN ?_ _ | refine blk_drew ?_ | refine blk_alloc ?_ _)); refine blk_put (cs := #[.int .i64 ((rd_T72 l0 a1).f0), .int .i64 ((rd_T72 l0 a1).f1), .slice A399_2 ((rd_T72 l0 a1).f2).length c399_2, .slice A399_3 ((rd_T72 l0 a1).f3).length c399_3, .int .i64 ((rd_T72 l0 a1).f4), .int .i64 0]) ?_ 5 _ rfl; (with_reducible repeat (first | refine blk_drewN ?_ _ | refine blk_drew ?_ | refine blk_alloc ?_ _)); refine blk_put (cs := #[.int .i64 ((rd_T72 l0 a1).f0), .int .i64 ((rd_T72 l0 a1).f1), .slice A399_2 ((rd_T72 l0 a1).f2).length c399_2, .slice A399_3 ((rd_T72 l0 a1).f3).length c399_3, .int .i64 0, .int .i64 0]) ?_ 4 _ rfl; (with_reducible repeat (first | refine blk_drewN ?_ _ | refine blk_drew ?_ | refine blk_alloc ?_ _)); refine blk_put (cs := #[.int .i64 ((rd_T72 l0 a1).f0), .int .i64 ((rd_T72 l0 a1).f1), .slice A399_2 ((rd_T72 l0 a1).f2).length c399_2, .slice none 0 0, .int .i64 0, .int .i64 0]) ?_ 3 _ rfl; (with_reducible repeat (first | refine blk_drewN ?_ _ | refine blk_drew ?_ | refine blk_alloc ?_ _)); refine blk_put (cs := #[.int .i64 ((rd_T72 l0 a1).f0), .int .i64 ((rd_T72 l0 a1).f1), .slice none 0 0, .slice none 0 0, .int .i64 0, .int .i64 0]) ?_ 2 _ rfl; (with_reducible repeat (first | refine blk_drewN ?_ _ | refine blk_drew ?_ | refine blk_alloc ?_ _)); refine blk_put (cs := #[.int .i64 ((rd_T72 l0 a1).f0), .int .i64 0, .slice none 0 0, .slice none 0 0, .int .i64 0, .int .i64 0]) ?_ 1 _ rfl; (with_reducible repeat (first | refine blk_drewN ?_ _ | refine blk_drew ?_ | refine blk_alloc ?_ _)); refine blk_put (cs := #[.int .i64 0, .int .i64 0, .slice none 0 0, .slice none 0 0, .int .i64 0, .int .i64 0]) ?_ 0 _ rfl; (with_reducible repeat (first | refine blk_drewN ?_ _ | refine blk_drew ?_ | refine blk_alloc ?_ _)); exact BK400.out) hb); have n2_ := Aside0.mk (below_step (by repeat (first | (with_reducible first | exact HB.out | apply below_alloc | apply pw_below_drewN | apply below_drew1 | refine below_set ?_ GE400.out) | exact HB.out)) hb); clear BK400; clear HB; have HO403 := n0_; have BK400 := n1_; have HB := n2_; clear n0_ n1_ n2_; clear hb ho27; have hcz28_0 : w26.cell? ⟨gb400, 0, none⟩ = some (.int .i64 ((rd_T72 l0 a1).f0)) := (blk_cell BK400.out 0).trans rfl; have hcz28_1 : w26.cell? ⟨gb400, 1, none⟩ = some (.int .i64 ((rd_T72 l0 a1).f1)) := (blk_cell BK400.out 1).trans rfl; have hcz28_2 : w26.cell? ⟨gb400, 2, none⟩ = some (.slice A399_2 ((rd_T72 l0 a1).f2).length c399_2) := (blk_cell BK400.out 2).trans rfl; have hcz28_3 : w26.cell? ⟨gb400, 3, none⟩ = some (.slice A399_3 ((rd_T72 l0 a1).f3).length c399_3) := (blk_cell BK400.out 3).trans rfl; have hcz28_4 : w26.cell? ⟨gb400, 4, none⟩ = some (.int .i64 ((rd_T72 l0 a1).f4)) := (blk_cell BK400.out 4).trans rfl; have hcz28_5 : w26.cell? ⟨gb400, 5, none⟩ = some (.int .i64 ((rd_T72 l0 a1).f5)) := (blk_cell BK400.out 5).trans rfl; have hfz28_0 := blk_frozen BK400.out 0; have hfz28_1 := blk_frozen BK400.out 1; have hfz28_2 := blk_frozen BK400.out 2; have hfz28_3 := blk_frozen BK400.out 3; have hfz28_4 := blk_frozen BK400.out 4; have hfz28_5 := blk_frozen BK400.out 5; obtain ⟨Ao29, co29, eo29⟩ := Kd.R_slice HO403.out; subst eo29; have p404 : 0 ≤ ((ji5) : Int) := of_decide_eq_true (by first | (with_reducible assumption) | assumption); have q404 : (ji5) < (y401.length : Int) := of_decide_eq_true (by first | (with_reducible assumption) | assumption); obtain ⟨ad404, e404, hx404_0⟩ := Kd.at_string (Kd.R_reads' HO403.out).2.2 (ji5) p404 q404; cases e404; replace p404 := eq_true p404; replace q404 := eq_true q404) | ((with_reducible refine gate_callee (f := 81) rfl ?_); refine goesL_ (some 30) rfl rfl Tryd.func81 (by kernel_rfl) rfl #[.int .i64 ((rd_T72 l0 a1).f0)] rfl (by (try simp only [List.map_toArray, List.map_cons, List.map_nil]); first | done | rfl | (simp only [List.length_drop, List.length_take]; rfl)) ?_; (with_reducible refine (impl_hasNum.calls ((rd_T72 l0 a1).f0) true _ A19.out).mono ?_); rintro e w' ⟨rfl, ⟨nd, rfl⟩⟩; refine ⟨_, rfl, ?_⟩) | ((with_reducible refine gate_callee (f := 82) rfl ?_); refine goesL_ (some 34) rfl rfl Tryd.func82 (by kernel_rfl) rfl #[.int .i64 ((rd_T72 l0 a1).f1)] rfl (by (try simp only [List.map_toArray, List.map_cons, List.map_nil]); first | done | rfl | (simp only [List.length_drop, List.length_take]; rfl)) ?_; (with_reducible refine (impl_decimal.calls ((rd_T72 l0 a1).f1) t407 _ (GL_up HG.out (by repeat (first | (with_reducible first | exact HB.out | apply below_alloc | apply pw_below_drewN | apply below_drew1 | refine below_set ?_ GE400.out) | exact HB.out))) A21.out).mono ?_); rintro e w30 ⟨rfl, hb⟩; refine ⟨_, rfl, ?_⟩; have n0_ := Aside0.mk (Kd.R_below (R_up HO403.out) hb); have n1_ := Aside0.mk (blk_below (g := gb400) (blk_up BK400.out) hb); have n2_ := Aside0.mk (below_step (by repeat (first | (with_reducible first | exact HB.out | apply below_alloc | apply pw_below_drewN | apply below_drew1 | refine below_set ?_ GE400.out) | exact HB.out)) hb); clear HO403; clear BK400; clear HB; have HO403 := n0_; have BK400 := n1_; have HB := n2_; clear n0_ n1_ n2_; (try clear hb); (try clear hb2); (try clear hk); (try clear hi)))
       go_ret
       exact ⟨by first | rfl | (simp [errW_none, errW_some] <;> rfl) | (simp only [← hji5]; first | rfl | (simp [errW_none, errW_some] <;> rfl)) | (simp [*, errW_none, errW_some] <;> rfl), by repeat (first | (with_reducible first | exact HB.out | apply below_alloc | apply pw_below_drewN | apply below_drew1 | refine below_set ?_ GE400.out) | exact HB.out)⟩
     · replace c20 := Bool.eq_false_iff.mpr c20
       subst c20
       (try rw [if_neg (show ¬ (false = true) by decide)] at H)
       replace H := Option.bind_eq_some_iff.mp H
       obtain ⟨t408, A310, H⟩ := H
       (try dsimp only at H)
       have A31 := Aside0.mk A310
       clear A310
       by_cases c32 : t408 = true
       · subst c32
         (try rw [if_pos rfl] at H)
         replace H := Option.bind_eq_some_iff.mp H
         obtain ⟨t409, A330, H⟩ := H
         (try dsimp only at H)
         have A33 := Aside0.mk A330
         clear A330
         by_cases c34 : 1 + (strOfNums t409).size ≤ 9223372036854775807
         case neg => rw [if_neg c34] at H; exact absurd H (by simp)
         rw [if_pos c34] at H
         have c34b0 := eq_true c34
         have c34b1 : decide (1 + (strOfNums t409).size ≤ 9223372036854775807) = true := decide_eq_true c34
         try have c34b2 : (9223372036854775807 < 1 + (strOfNums t409).size) = False := eq_false (Nat.not_lt.2 c34)
         by_cases c35 : (rdOf ByteArray.empty y401 (ji5)).size + ((⟨#[32]⟩ : ByteArray) ++ (strOfNums t409)).size ≤ 9223372036854775807
         case neg => rw [if_neg c35] at H; exact absurd H (by simp)
         rw [if_pos c35] at H
         have c35b0 := eq_true c35
         have c35b1 : decide ((rdOf ByteArray.empty y401 (ji5)).size + ((⟨#[32]⟩ : ByteArray) ++ (strOfNums t409)).size ≤ 9223372036854775807) = true := decide_eq_true c35
         try have c35b2 : (9223372036854775807 < (rdOf ByteArray.empty y401 (ji5)).size + ((⟨#[32]⟩ : ByteArray) ++ (strOfNums t409)).size) = False := eq_false (Nat.not_lt.2 c35)
         (try (have c35b3 := c35b2; simp only [ByteArray.size_append] at c35b3))
         (try (have c35b4 : (9223372036854775807 < (rdOf ByteArray.empty y401 (ji5)).size + (1 + (strOfNums t409).size)) = False := eq_false (by have h_ := c35; simp only [ByteArray.size_append] at h_; have e0_ : (⟨#[32]⟩ : ByteArray).size = 1 := rfl; omega)))
         obtain rfl := Option.some.inj H
         have p399 : 0 ≤ (a1 : Int) := of_decide_eq_true (by first | (with_reducible assumption) | assumption)
         have q399 : a1 < (l0.length : Int) := of_decide_eq_true (by first | (with_reducible assumption) | assumption)
         obtain ⟨ad399, A399_2, c399_2, A399_3, c399_3, e399, hx399_0, hx399_1, hx399_2, hx399_3, hx399_4, hx399_5, hl399_2, hi399_2, hl399_3, hi399_3⟩ := at_T72 HR0.out a1 p399 q399
         cases e399
         have HR399_2 := Aside0.mk hi399_2
         have HC399_2 := Aside0.mk hl399_2
         clear hi399_2 hl399_2
         have HR399_3 := Aside0.mk hi399_3
         have HC399_3 := Aside0.mk hl399_3
         clear hi399_3 hl399_3
         replace p399 := eq_true p399
         replace q399 := eq_true q399
         go_enter Tryd.func46, Tryd.ntmps46
         go_wp2_with (first | ((with_reducible refine gate_dst (N := 5) rfl ?_); refine box_event ?hg (N := 5) ?hd (cs := #[.int .i64 0, .int .i64 0, .slice none 0 0, .slice none 0 0, .int .i64 0, .int .i64 0]) (t := 72) ?hr ?_; (case hd => rfl); (case hg => rfl); (case hr => first | (go_simp; done) | (go_simp; rfl)); intro gb400 hg w36 hbox hb; have n0_ := Aside0.mk (below_step (HB_up HB.out) hb); have n1_ := Aside0.mk (hbox); have n2_ := Aside0.mk ((by rw [hg]; exact (below_size (HB_up HB.out)) : w.heap.size ≤ gb400)); have n3_ := Aside0.mk ((by rw [hg]; exact (below_size (HB_up HB.out)) : w.heap.size ≤ gb400)); clear HB; have HB := n0_; have BK400 := n1_; have GW400 := n2_; have GE400 := n3_; clear n0_ n1_ n2_ n3_; clear hb hbox hg; have hcz37_0 : w36.cell? ⟨gb400, 0, none⟩ = some (.int .i64 0) := (blk_cell BK400.out 0).trans rfl; have hcz37_1 : w36.cell? ⟨gb400, 1, none⟩ = some (.int .i64 0) := (blk_cell BK400.out 1).trans rfl; have hcz37_2 : w36.cell? ⟨gb400, 2, none⟩ = some (.slice none 0 0) := (blk_cell BK400.out 2).trans rfl; have hcz37_3 : w36.cell? ⟨gb400, 3, none⟩ = some (.slice none 0 0) := (blk_cell BK400.out 3).trans rfl; have hcz37_4 : w36.cell? ⟨gb400, 4, none⟩ = some (.int .i64 0) := (blk_cell BK400.out 4).trans rfl; have hcz37_5 : w36.cell? ⟨gb400, 5, none⟩ = some (.int .i64 0) := (blk_cell BK400.out 5).trans rfl; have hfz37_0 := blk_frozen BK400.out 0; have hfz37_1 := blk_frozen BK400.out 1; have hfz37_2 := blk_frozen BK400.out 2; have hfz37_3 := blk_frozen BK400.out 3; have hfz37_4 := blk_frozen BK400.out 4; have hfz37_5 := blk_frozen BK400.out 5) | ((with_reducible refine gate_dst (N := 11) rfl ?_); refine Kd.R_lit Kd.string _ 9 ?hg (N := 11) ?hd (xs := ([(⟨#[97, 108, 108]⟩ : ByteArray), (⟨#[102, 108, 97, 103]⟩ : ByteArray), (⟨#[115, 105, 110, 99, 101]⟩ : ByteArray), (⟨#[98, 101, 102, 111, 114, 101]⟩ : ByteArray), (⟨#[108, 97, 114, 103, 101, 114]⟩ : ByteArray), (⟨#[115, 117, 98, 106, 101, 99, 116]⟩ : ByteArray), (⟨#[98, 111, 100, 121]⟩ : ByteArray), (⟨#[117, 105, 100]⟩ : ByteArray), (⟨#[110, 111, 116]⟩ : ByteArray), (⟨#[97, 110, 100]⟩ : ByteArray), (⟨#[111, 114]⟩ : ByteArray)] : List ByteArray)) (inner := [.string (⟨#[97, 108, 108]⟩ : ByteArray), .string (⟨#[102, 108, 97, 103]⟩ : ByteArray), .string (⟨#[115, 105, 110, 99, 101]⟩ : ByteArray), .string (⟨#[98, 101, 102, 111, 114, 101]⟩ : ByteArray), .string (⟨#[108, 97, 114, 103, 101, 114]⟩ : ByteArray), .string (⟨#[115, 117, 98, 106, 101, 99, 116]⟩ : ByteArray), .string (⟨#[98, 111, 100, 121]⟩ : ByteArray), .string (⟨#[117, 105, 100]⟩ : ByteArray), .string (⟨#[110, 111, 116]⟩ : ByteArray), .string (⟨#[97, 110, 100]⟩ : ByteArray), .string (⟨#[111, 114]⟩ : ByteArray)]) (ok := fun _ => True) (okp := fun _ => True) ?hr ?hp (fun _ hk => hk) trivial (Below.refl _ _) (Nat.le_refl _) (by simp) ?_; (case hd => rfl); (case hg => rfl); (case hr => first | (go_simp; done) | (go_simp; rfl)); (case hp => exact (Reps.one (show Kd.M Kd.string _ _ _ (⟨#[97, 108, 108]⟩ : ByteArray) [.string (⟨#[97, 108, 108]⟩ : ByteArray)] from rfl) (Reps.one (show Kd.M Kd.string _ _ _ (⟨#[102, 108, 97, 103]⟩ : ByteArray) [.string (⟨#[102, 108, 97, 103]⟩ : ByteArray)] from rfl) (Reps.one (show Kd.M Kd.string _ _ _ (⟨#[115, 105, 110, 99, 101]⟩ : ByteArray) [.string (⟨#[115, 105, 110, 99, 101]⟩ : ByteArray)] from rfl) (Reps.one (show Kd.M Kd.string _ _ _ (⟨#[98, 101, 102, 111, 114, 101]⟩ : ByteArray) [.string (⟨#[98, 101, 102, 111, 114, 101]⟩ : ByteArray)] from rfl) (Reps.one (show Kd.M Kd.string _ _ _ (⟨#[108, 97, 114, 103, 101, 114]⟩ : ByteArray) [.string (⟨#[108, 97, 114, 103, 101, 114]⟩ : ByteArray)] from rfl) (Reps.one (show Kd.M Kd.string _ _ _ (⟨#[115, 117, 98, 106, 101, 99, 116]⟩ : ByteArray) [.string (⟨#[115, 117, 98, 106, 101, 99, 116]⟩ : ByteArray)] from rfl) (Reps.one (show Kd.M Kd.string _ _ _ (⟨#[98, 111, 100, 121]⟩ : ByteArray) [.string (⟨#[98, 111, 100, 121]⟩ : ByteArray)] from rfl) (Reps.one (show Kd.M Kd.string _ _ _ (⟨#[117, 105, 100]⟩ : ByteArray) [.string (⟨#[117, 105, 100]⟩ : ByteArray)] from rfl) (Reps.one (show Kd.M Kd.string _ _ _ (⟨#[110, 111, 116]⟩ : ByteArray) [.string (⟨#[110, 111, 116]⟩ : ByteArray)] from rfl) (Reps.one (show Kd.M Kd.string _ _ _ (⟨#[97, 110, 100]⟩ : ByteArray) [.string (⟨#[97, 110, 100]⟩ : ByteArray)] from rfl) (Reps.one (show Kd.M Kd.string _ _ _ (⟨#[111, 114]⟩ : ByteArray) [.string (⟨#[111, 114]⟩ : ByteArray)] from rfl) (Reps.none _ _))))))))))))); intro v402 w38 ho39 hb hg_ hnew_; clear hg_ hnew_; (first | rw [← Ny401.out] at ho39 | (simp only [Int.reduceToNat] at ho39; rw [← Ny401.out] at ho39)); have n0_ := Aside0.mk (Kd.R_lower ho39 (below_size (by repeat (first | (with_reducible first | exact HB.out | apply below_alloc | apply pw_below_drewN | apply below_drew1 | refine below_set ?_ GE400.out) | exact HB.out)))); have n1_ := Aside0.mk (blk_below (g := gb400) (o := .cells #[.int .i64 ((rd_T72 l0 a1).f0), .int .i64 ((rd_T72 l0 a1).f1), .slice A399_2 ((rd_T72 l0 a1).f2).length c399_2, .slice A399_3 ((rd_T72 l0 a1).f3).length c399_3, .int .i64 ((rd_T72 l0 a1).f4), .int .i64 ((rd_T72 l0 a1).f5)] 72 (0, 0)) (by (with_reducible repeat (first | refine blk_drewN ?_ _ | refine blk_drew ?_ | refine blk_alloc ?_ _)); refine blk_put (cs := #[.int .i64 ((rd_T72 l0 a1).f0), .int .i64 ((rd_T72 l0 a1).f1), .slice A399_2 ((rd_T72 l0 a1).f2).length c399_2, .slice A399_3 ((rd_T72 l0 a1).f3).length c399_3, .int .i64 ((rd_T72 l0 a1).f4), .int .i64 0]) ?_ 5 _ rfl; (with_reducible repeat (first | refine blk_drewN ?_ _ | refine blk_drew ?_ | refine blk_alloc ?_ _)); refine blk_put (cs := #[.int .i64 ((rd_T72 l0 a1).f0), .int .i64 ((rd_T72 l0 a1).f1), .slice A399_2 ((rd_T72 l0 a1).f2).length c399_2, .slice A399_3 ((rd_T72 l0 a1).f3).length c399_3, .int .i64 0, .int .i64 0]) ?_ 4 _ rfl; (with_reducible repeat (first | refine blk_drewN ?_ _ | refine blk_drew ?_ | refine blk_alloc ?_ _)); refine blk_put (cs := #[.int .i64 ((rd_T72 l0 a1).f0), .int .i64 ((rd_T72 l0 a1).f1), .slice A399_2 ((rd_T72 l0 a1).f2).length c399_2, .slice none 0 0, .int .i64 0, .int .i64 0]) ?_ 3 _ rfl; (with_reducible repeat (first | refine blk_drewN ?_ _ | refine blk_drew ?_ | refine blk_alloc ?_ _)); refine blk_put (cs := #[.int .i64 ((rd_T72 l0 a1).f0), .int .i64 ((rd_T72 l0 a1).f1), .slice none 0 0, .slice none 0 0, .int .i64 0, .int .i64 0]) ?_ 2 _ rfl; (with_reducible repeat (first | refine blk_drewN ?_ _ | refine blk_drew ?_ | refine blk_alloc ?_ _)); refine blk_put (cs := #[.int .i64 ((rd_T72 l0 a1).f0), .int .i64 0, .slice none 0 0, .slice none 0 0, .int .i64 0, .int .i64 0]) ?_ 1 _ rfl; (with_reducible repeat (first | refine blk_drewN ?_ _ | refine blk_drew ?_ | refine blk_alloc ?_ _)); refine blk_put (cs := #[.int .i64 0, .int .i64 0, .slice none 0 0, .slice none 0 0, .int .i64 0, .int .i64 0]) ?_ 0 _ rfl; (with_reducible repeat (first | refine blk_drewN ?_ _ | refine blk_drew ?_ | refine blk_alloc ?_ _)); exact BK400.out) hb); have n2_ := Aside0.mk (below_step (by repeat (first | (with_reducible first | exact HB.out | apply below_alloc | apply pw_below_drewN | apply below_drew1 | refine below_set ?_ GE400.out) | exact HB.out)) hb); clear BK400; clear HB; have HO403 := n0_; have BK400 := n1_; have HB := n2_; clear n0_ n1_ n2_; clear hb ho39; have hcz40_0 : w38.cell? ⟨gb400, 0, none⟩ = some (.int .i64 ((rd_T72 l0 a1).f0)) := (blk_cell BK400.out 0).trans rfl; have hcz40_1 : w38.cell? ⟨gb400, 1, none⟩ = some (.int .i64 ((rd_T72 l0 a1).f1)) := (blk_cell BK400.out 1).trans rfl; have hcz40_2 : w38.cell? ⟨gb400, 2, none⟩ = some (.slice A399_2 ((rd_T72 l0 a1).f2).length c399_2) := (blk_cell BK400.out 2).trans rfl; have hcz40_3 : w38.cell? ⟨gb400, 3, none⟩ = some (.slice A399_3 ((rd_T72 l0 a1).f3).length c399_3) := (blk_cell BK400.out 3).trans rfl; have hcz40_4 : w38.cell? ⟨gb400, 4, none⟩ = some (.int .i64 ((rd_T72 l0 a1).f4)) := (blk_cell BK400.out 4).trans rfl; have hcz40_5 : w38.cell? ⟨gb400, 5, none⟩ = some (.int .i64 ((rd_T72 l0 a1).f5)) := (blk_cell BK400.out 5).trans rfl; have hfz40_0 := blk_frozen BK400.out 0; have hfz40_1 := blk_frozen BK400.out 1; have hfz40_2 := blk_frozen BK400.out 2; have hfz40_3 := blk_frozen BK400.out 3; have hfz40_4 := blk_frozen BK400.out 4; have hfz40_5 := blk_frozen BK400.out 5; obtain ⟨Ao41, co41, eo41⟩ := Kd.R_slice HO403.out; subst eo41; have p404 : 0 ≤ ((ji5) : Int) := of_decide_eq_true (by first | (with_reducible assumption) | assumption); have q404 : (ji5) < (y401.length : Int) := of_decide_eq_true (by first | (with_reducible assumption) | assumption); obtain ⟨ad404, e404, hx404_0⟩ := Kd.at_string (Kd.R_reads' HO403.out).2.2 (ji5) p404 q404; cases e404; replace p404 := eq_true p404; replace q404 := eq_true q404) | ((with_reducible refine gate_callee (f := 81) rfl ?_); refine goesL_ (some 30) rfl rfl Tryd.func81 (by kernel_rfl) rfl #[.int .i64 ((rd_T72 l0 a1).f0)] rfl (by (try simp only [List.map_toArray, List.map_cons, List.map_nil]); first | done | rfl | (simp only [List.length_drop, List.length_take]; rfl)) ?_; (with_reducible refine (impl_hasNum.calls ((rd_T72 l0 a1).f0) false _ A19.out).mono ?_); rintro e w' ⟨rfl, ⟨nd, rfl⟩⟩; refine ⟨_, rfl, ?_⟩) | ((with_reducible refine gate_callee (f := 83) rfl ?_); refine goesL_ (some 40) rfl rfl Tryd.func83 (by kernel_rfl) rfl #[.int .i64 ((rd_T72 l0 a1).f0)] rfl (by (try simp only [List.map_toArray, List.map_cons, List.map_nil]); first | done | rfl | (simp only [List.length_drop, List.length_take]; rfl)) ?_; (with_reducible refine (impl_hasCodes.calls ((rd_T72 l0 a1).f0) true _ A31.out).mono ?_); rintro e w' ⟨rfl, ⟨nd, rfl⟩⟩; refine ⟨_, rfl, ?_⟩) | ((with_reducible refine gate_callee (f := 84) rfl ?_); refine goesL_ (some 44) rfl rfl Tryd.func84 (by kernel_rfl) rfl #[.int .i64 4, .slice A399_2 ((rd_T72 l0 a1).f2).length c399_2] rfl (by (try simp only [List.map_toArray, List.map_cons, List.map_nil]); first | done | rfl | (simp only [List.length_drop, List.length_take]; rfl)) ?_; (with_reducible refine (impl_encodeChars.calls k 4 _ _ ((rd_T72 l0 a1).f2) t409 _ ?side1 ?side2 A33.out).mono ?_); (case side1 => repeat (first | exact (Kd.C_below HR399_2.out (by repeat (first | (with_reducible first | exact HB.out | apply below_alloc | apply pw_below_drewN | apply below_drew1 | refine below_set ?_ GE400.out) | exact HB.out))) | (with_reducible refine Kd.C_alloc ?_ _) | (with_reducible refine Kd.C_drewN ?_ _) | (with_reducible refine Kd.C_drew ?_))); (case side2 => exact HC399_2.out); rintro e w42 ⟨v410, rfl, ho0, hb⟩; refine ⟨_, rfl, ?_⟩; have n0_ := Aside0.mk (Kd.R_below (R_up HO403.out) hb); have n1_ := Aside0.mk (Kd.R_lower ho0 (below_size (by repeat (first | (with_reducible first | exact HB.out | apply below_alloc | apply pw_below_drewN | apply below_drew1 | refine below_set ?_ GE400.out) | exact HB.out)))); have n2_ := Aside0.mk (blk_below (g := gb400) (blk_up BK400.out) hb); have n3_ := Aside0.mk (below_step (by repeat (first | (with_reducible first | exact HB.out | apply below_alloc | apply pw_below_drewN | apply below_drew1 | refine below_set ?_ GE400.out) | exact HB.out)) hb); clear HO403; clear BK400; clear HB; have HO403 := n0_; have HO411 := n1_; have BK400 := n2_; have HB := n3_; clear n0_ n1_ n2_ n3_; (try clear hb); (try clear hb2); (try clear hk); (try clear hi); (try clear ho0); have hcv43 := own_string (P := Tryd.prog) Tryd.underlying45 Tryd.underlying5 Tryd.underlying9 (Kd.own_of_R HO411.out)))
         go_ret
         exact ⟨by first | rfl | (simp [errW_none, errW_some] <;> rfl) | (simp only [← hji5]; first | rfl | (simp [errW_none, errW_some] <;> rfl)) | (simp [*, errW_none, errW_some] <;> rfl), by repeat (first | (with_reducible first | exact HB.out | apply below_alloc | apply pw_below_drewN | apply below_drew1 | refine below_set ?_ GE400.out) | exact HB.out)⟩
       · replace c32 := Bool.eq_false_iff.mpr c32
         subst c32
         (try rw [if_neg (show ¬ (false = true) by decide)] at H)
         by_cases c44 : ((rd_T72 l0 a1).f0) = 8
         · rw [if_pos c44] at H
           have c44b0 : (((rd_T72 l0 a1).f0) == 8) = true := beq_iff_eq.mpr c44
           have c44b1 : (((rd_T72 l0 a1).f0) != 8) = false := bne_eq_false_iff_eq.mpr c44
           clear c44
           replace H := Option.bind_eq_some_iff.mp H
           obtain ⟨t412, A450, H⟩ := H
           (try dsimp only at H)
           have A45 := Aside0.mk A450
           clear A450
           by_cases c46 : 1 + t412.size ≤ 9223372036854775807
           case neg => rw [if_neg c46] at H; exact absurd H (by simp)
           rw [if_pos c46] at H
           have c46b0 := eq_true c46
           have c46b1 : decide (1 + t412.size ≤ 9223372036854775807) = true := decide_eq_true c46
           try have c46b2 : (9223372036854775807 < 1 + t412.size) = False := eq_false (Nat.not_lt.2 c46)
           by_cases c47 : (rdOf ByteArray.empty y401 (ji5)).size + ((⟨#[32]⟩ : ByteArray) ++ t412).size ≤ 9223372036854775807
           case neg => rw [if_neg c47] at H; exact absurd H (by simp)
           rw [if_pos c47] at H
           have c47b0 := eq_true c47
           have c47b1 : decide ((rdOf ByteArray.empty y401 (ji5)).size + ((⟨#[32]⟩ : ByteArray) ++ t412).size ≤ 9223372036854775807) = true := decide_eq_true c47
           try have c47b2 : (9223372036854775807 < (rdOf ByteArray.empty y401 (ji5)).size + ((⟨#[32]⟩ : ByteArray) ++ t412).size) = False := eq_false (Nat.not_lt.2 c47)
           (try (have c47b3 := c47b2; simp only [ByteArray.size_append] at c47b3))
           (try (have c47b4 : (9223372036854775807 < (rdOf ByteArray.empty y401 (ji5)).size + (1 + t412.size)) = False := eq_false (by have h_ := c47; simp only [ByteArray.size_append] at h_; have e0_ : (⟨#[32]⟩ : ByteArray).size = 1 := rfl; omega)))
           obtain rfl := Option.some.inj H
           have p399 : 0 ≤ (a1 : Int) := of_decide_eq_true (by first | (with_reducible assumption) | assumption)
           have q399 : a1 < (l0.length : Int) := of_decide_eq_true (by first | (with_reducible assumption) | assumption)
           obtain ⟨ad399, A399_2, c399_2, A399_3, c399_3, e399, hx399_0, hx399_1, hx399_2, hx399_3, hx399_4, hx399_5, hl399_2, hi399_2, hl399_3, hi399_3⟩ := at_T72 HR0.out a1 p399 q399
           cases e399
           have HR399_2 := Aside0.mk hi399_2
           have HC399_2 := Aside0.mk hl399_2
           clear hi399_2 hl399_2
           have HR399_3 := Aside0.mk hi399_3
           have HC399_3 := Aside0.mk hl399_3
           clear hi399_3 hl399_3
           replace p399 := eq_true p399
           replace q399 := eq_true q399
           go_enter Tryd.func46, Tryd.ntmps46
           go_wp2_with (first | ((with_reducible refine gate_dst (N := 5) rfl ?_); refine box_event ?hg (N := 5) ?hd (cs := #[.int .i64 0, .int .i64 0, .slice none 0 0, .slice none 0 0, .int .i64 0, .int .i64 0]) (t := 72) ?hr ?_; (case hd => rfl); (case hg => rfl); (case hr => first | (go_simp; done) | (go_simp; rfl)); intro gb400 hg w48 hbox hb; have n0_ := Aside0.mk (below_step (HB_up HB.out) hb); have n1_ := Aside0.mk (hbox); have n2_ := Aside0.mk ((by rw [hg]; exact (below_size (HB_up HB.out)) : w.heap.size ≤ gb400)); have n3_ := Aside0.mk ((by rw [hg]; exact (below_size (HB_up HB.out)) : w.heap.size ≤ gb400)); clear HB; have HB := n0_; have BK400 := n1_; have GW400 := n2_; have GE400 := n3_; clear n0_ n1_ n2_ n3_; clear hb hbox hg; have hcz49_0 : w48.cell? ⟨gb400, 0, none⟩ = some (.int .i64 0) := (blk_cell BK400.out 0).trans rfl; have hcz49_1 : w48.cell? ⟨gb400, 1, none⟩ = some (.int .i64 0) := (blk_cell BK400.out 1).trans rfl; have hcz49_2 : w48.cell? ⟨gb400, 2, none⟩ = some (.slice none 0 0) := (blk_cell BK400.out 2).trans rfl; have hcz49_3 : w48.cell? ⟨gb400, 3, none⟩ = some (.slice none 0 0) := (blk_cell BK400.out 3).trans rfl; have hcz49_4 : w48.cell? ⟨gb400, 4, none⟩ = some (.int .i64 0) := (blk_cell BK400.out 4).trans rfl; have hcz49_5 : w48.cell? ⟨gb400, 5, none⟩ = some (.int .i64 0) := (blk_cell BK400.out 5).trans rfl; have hfz49_0 := blk_frozen BK400.out 0; have hfz49_1 := blk_frozen BK400.out 1; have hfz49_2 := blk_frozen BK400.out 2; have hfz49_3 := blk_frozen BK400.out 3; have hfz49_4 := blk_frozen BK400.out 4; have hfz49_5 := blk_frozen BK400.out 5) | ((with_reducible refine gate_dst (N := 11) rfl ?_); refine Kd.R_lit Kd.string _ 9 ?hg (N := 11) ?hd (xs := ([(⟨#[97, 108, 108]⟩ : ByteArray), (⟨#[102, 108, 97, 103]⟩ : ByteArray), (⟨#[115, 105, 110, 99, 101]⟩ : ByteArray), (⟨#[98, 101, 102, 111, 114, 101]⟩ : ByteArray), (⟨#[108, 97, 114, 103, 101, 114]⟩ : ByteArray), (⟨#[115, 117, 98, 106, 101, 99, 116]⟩ : ByteArray), (⟨#[98, 111, 100, 121]⟩ : ByteArray), (⟨#[117, 105, 100]⟩ : ByteArray), (⟨#[110, 111, 116]⟩ : ByteArray), (⟨#[97, 110, 100]⟩ : ByteArray), (⟨#[111, 114]⟩ : ByteArray)] : List ByteArray)) (inner := [.string (⟨#[97, 108, 108]⟩ : ByteArray), .string (⟨#[102, 108, 97, 103]⟩ : ByteArray), .string (⟨#[115, 105, 110, 99, 101]⟩ : ByteArray), .string (⟨#[98, 101, 102, 111, 114, 101]⟩ : ByteArray), .string (⟨#[108, 97, 114, 103, 101, 114]⟩ : ByteArray), .string (⟨#[115, 117, 98, 106, 101, 99, 116]⟩ : ByteArray), .string (⟨#[98, 111, 100, 121]⟩ : ByteArray), .string (⟨#[117, 105, 100]⟩ : ByteArray), .string (⟨#[110, 111, 116]⟩ : ByteArray), .string (⟨#[97, 110, 100]⟩ : ByteArray), .string (⟨#[111, 114]⟩ : ByteArray)]) (ok := fun _ => True) (okp := fun _ => True) ?hr ?hp (fun _ hk => hk) trivial (Below.refl _ _) (Nat.le_refl _) (by simp) ?_; (case hd => rfl); (case hg => rfl); (case hr => first | (go_simp; done) | (go_simp; rfl)); (case hp => exact (Reps.one (show Kd.M Kd.string _ _ _ (⟨#[97, 108, 108]⟩ : ByteArray) [.string (⟨#[97, 108, 108]⟩ : ByteArray)] from rfl) (Reps.one (show Kd.M Kd.string _ _ _ (⟨#[102, 108, 97, 103]⟩ : ByteArray) [.string (⟨#[102, 108, 97, 103]⟩ : ByteArray)] from rfl) (Reps.one (show Kd.M Kd.string _ _ _ (⟨#[115, 105, 110, 99, 101]⟩ : ByteArray) [.string (⟨#[115, 105, 110, 99, 101]⟩ : ByteArray)] from rfl) (Reps.one (show Kd.M Kd.string _ _ _ (⟨#[98, 101, 102, 111, 114, 101]⟩ : ByteArray) [.string (⟨#[98, 101, 102, 111, 114, 101]⟩ : ByteArray)] from rfl) (Reps.one (show Kd.M Kd.string _ _ _ (⟨#[108, 97, 114, 103, 101, 114]⟩ : ByteArray) [.string (⟨#[108, 97, 114, 103, 101, 114]⟩ : ByteArray)] from rfl) (Reps.one (show Kd.M Kd.string _ _ _ (⟨#[115, 117, 98, 106, 101, 99, 116]⟩ : ByteArray) [.string (⟨#[115, 117, 98, 106, 101, 99, 116]⟩ : ByteArray)] from rfl) (Reps.one (show Kd.M Kd.string _ _ _ (⟨#[98, 111, 100, 121]⟩ : ByteArray) [.string (⟨#[98, 111, 100, 121]⟩ : ByteArray)] from rfl) (Reps.one (show Kd.M Kd.string _ _ _ (⟨#[117, 105, 100]⟩ : ByteArray) [.string (⟨#[117, 105, 100]⟩ : ByteArray)] from rfl) (Reps.one (show Kd.M Kd.string _ _ _ (⟨#[110, 111, 116]⟩ : ByteArray) [.string (⟨#[110, 111, 116]⟩ : ByteArray)] from rfl) (Reps.one (show Kd.M Kd.string _ _ _ (⟨#[97, 110, 100]⟩ : ByteArray) [.string (⟨#[97, 110, 100]⟩ : ByteArray)] from rfl) (Reps.one (show Kd.M Kd.string _ _ _ (⟨#[111, 114]⟩ : ByteArray) [.string (⟨#[111, 114]⟩ : ByteArray)] from rfl) (Reps.none _ _))))))))))))); intro v402 w50 ho51 hb hg_ hnew_; clear hg_ hnew_; (first | rw [← Ny401.out] at ho51 | (simp only [Int.reduceToNat] at ho51; rw [← Ny401.out] at ho51)); have n0_ := Aside0.mk (Kd.R_lower ho51 (below_size (by repeat (first | (with_reducible first | exact HB.out | apply below_alloc | apply pw_below_drewN | apply below_drew1 | refine below_set ?_ GE400.out) | exact HB.out)))); have n1_ := Aside0.mk (blk_below (g := gb400) (o := .cells #[.int .i64 ((rd_T72 l0 a1).f0), .int .i64 ((rd_T72 l0 a1).f1), .slice A399_2 ((rd_T72 l0 a1).f2).length c399_2, .slice A399_3 ((rd_T72 l0 a1).f3).length c399_3, .int .i64 ((rd_T72 l0 a1).f4), .int .i64 ((rd_T72 l0 a1).f5)] 72 (0, 0)) (by (with_reducible repeat (first | refine blk_drewN ?_ _ | refine blk_drew ?_ | refine blk_alloc ?_ _)); refine blk_put (cs := #[.int .i64 ((rd_T72 l0 a1).f0), .int .i64 ((rd_T72 l0 a1).f1), .slice A399_2 ((rd_T72 l0 a1).f2).length c399_2, .slice A399_3 ((rd_T72 l0 a1).f3).length c399_3, .int .i64 ((rd_T72 l0 a1).f4), .int .i64 0]) ?_ 5 _ rfl; (with_reducible repeat (first | refine blk_drewN ?_ _ | refine blk_drew ?_ | refine blk_alloc ?_ _)); refine blk_put (cs := #[.int .i64 ((rd_T72 l0 a1).f0), .int .i64 ((rd_T72 l0 a1).f1), .slice A399_2 ((rd_T72 l0 a1).f2).length c399_2, .slice A399_3 ((rd_T72 l0 a1).f3).length c399_3, .int .i64 0, .int .i64 0]) ?_ 4 _ rfl; (with_reducible repeat (first | refine blk_drewN ?_ _ | refine blk_drew ?_ | refine blk_alloc ?_ _)); refine blk_put (cs := #[.int .i64 ((rd_T72 l0 a1).f0), .int .i64 ((rd_T72 l0 a1).f1), .slice A399_2 ((rd_T72 l0 a1).f2).length c399_2, .slice none 0 0, .int .i64 0, .int .i64 0]) ?_ 3 _ rfl; (with_reducible repeat (first | refine blk_drewN ?_ _ | refine blk_drew ?_ | refine blk_alloc ?_ _)); refine blk_put (cs := #[.int .i64 ((rd_T72 l0 a1).f0), .int .i64 ((rd_T72 l0 a1).f1), .slice none 0 0, .slice none 0 0, .int .i64 0, .int .i64 0]) ?_ 2 _ rfl; (with_reducible repeat (first | refine blk_drewN ?_ _ | refine blk_drew ?_ | refine blk_alloc ?_ _)); refine blk_put (cs := #[.int .i64 ((rd_T72 l0 a1).f0), .int .i64 0, .slice none 0 0, .slice none 0 0, .int .i64 0, .int .i64 0]) ?_ 1 _ rfl; (with_reducible repeat (first | refine blk_drewN ?_ _ | refine blk_drew ?_ | refine blk_alloc ?_ _)); refine blk_put (cs := #[.int .i64 0, .int .i64 0, .slice none 0 0, .slice none 0 0, .int .i64 0, .int .i64 0]) ?_ 0 _ rfl; (with_reducible repeat (first | refine blk_drewN ?_ _ | refine blk_drew ?_ | refine blk_alloc ?_ _)); exact BK400.out) hb); have n2_ := Aside0.mk (below_step (by repeat (first | (with_reducible first | exact HB.out | apply below_alloc | apply pw_below_drewN | apply below_drew1 | refine below_set ?_ GE400.out) | exact HB.out)) hb); clear BK400; clear HB; have HO403 := n0_; have BK400 := n1_; have HB := n2_; clear n0_ n1_ n2_; clear hb ho51; have hcz52_0 : w50.cell? ⟨gb400, 0, none⟩ = some (.int .i64 ((rd_T72 l0 a1).f0)) := (blk_cell BK400.out 0).trans rfl; have hcz52_1 : w50.cell? ⟨gb400, 1, none⟩ = some (.int .i64 ((rd_T72 l0 a1).f1)) := (blk_cell BK400.out 1).trans rfl; have hcz52_2 : w50.cell? ⟨gb400, 2, none⟩ = some (.slice A399_2 ((rd_T72 l0 a1).f2).length c399_2) := (blk_cell BK400.out 2).trans rfl; have hcz52_3 : w50.cell? ⟨gb400, 3, none⟩ = some (.slice A399_3 ((rd_T72 l0 a1).f3).length c399_3) := (blk_cell BK400.out 3).trans rfl; have hcz52_4 : w50.cell? ⟨gb400, 4, none⟩ = some (.int .i64 ((rd_T72 l0 a1).f4)) := (blk_cell BK400.out 4).trans rfl; have hcz52_5 : w50.cell? ⟨gb400, 5, none⟩ = some (.int .i64 ((rd_T72 l0 a1).f5)) := (blk_cell BK400.out 5).trans rfl; have hfz52_0 := blk_frozen BK400.out 0; have hfz52_1 := blk_frozen BK400.out 1; have hfz52_2 := blk_frozen BK400.out 2; have hfz52_3 := blk_frozen BK400.out 3; have hfz52_4 := blk_frozen BK400.out 4; have hfz52_5 := blk_frozen BK400.out 5; obtain ⟨Ao53, co53, eo53⟩ := Kd.R_slice HO403.out; subst eo53; have p404 : 0 ≤ ((ji5) : Int) := of_decide_eq_true (by first | (with_reducible assumption) | assumption); have q404 : (ji5) < (y401.length : Int) := of_decide_eq_true (by first | (with_reducible assumption) | assumption); obtain ⟨ad404, e404, hx404_0⟩ := Kd.at_string (Kd.R_reads' HO403.out).2.2 (ji5) p404 q404; cases e404; replace p404 := eq_true p404; replace q404 := eq_true q404) | ((with_reducible refine gate_callee (f := 81) rfl ?_); refine goesL_ (some 30) rfl rfl Tryd.func81 (by kernel_rfl) rfl #[.int .i64 ((rd_T72 l0 a1).f0)] rfl (by (try simp only [List.map_toArray, List.map_cons, List.map_nil]); first | done | rfl | (simp only [List.length_drop, List.length_take]; rfl)) ?_; (with_reducible refine (impl_hasNum.calls ((rd_T72 l0 a1).f0) false _ A19.out).mono ?_); rintro e w' ⟨rfl, ⟨nd, rfl⟩⟩; refine ⟨_, rfl, ?_⟩) | ((with_reducible refine gate_callee (f := 83) rfl ?_); refine goesL_ (some 40) rfl rfl Tryd.func83 (by kernel_rfl) rfl #[.int .i64 ((rd_T72 l0 a1).f0)] rfl (by (try simp only [List.map_toArray, List.map_cons, List.map_nil]); first | done | rfl | (simp only [List.length_drop, List.length_take]; rfl)) ?_; (with_reducible refine (impl_hasCodes.calls ((rd_T72 l0 a1).f0) false _ A31.out).mono ?_); rintro e w' ⟨rfl, ⟨nd, rfl⟩⟩; refine ⟨_, rfl, ?_⟩) | ((with_reducible refine gate_callee (f := 35) rfl ?_); refine goesL_ (some 55) rfl rfl Tryd.func35 (by kernel_rfl) rfl #[.slice A399_3 ((rd_T72 l0 a1).f3).length c399_3] rfl (by (try simp only [List.map_toArray, List.map_cons, List.map_nil]); first | done | rfl | (simp only [List.length_drop, List.length_take]; rfl)) ?_; (with_reducible refine (impl_setText.calls k _ _ ((rd_T72 l0 a1).f3) t412 _ ?side1 ?side2 (GL_up HG.out (by repeat (first | (with_reducible first | exact HB.out | apply below_alloc | apply pw_below_drewN | apply below_drew1 | refine below_set ?_ GE400.out) | exact HB.out))) A45.out).mono ?_); (case side1 => repeat (first | exact (Kd.C_below HR399_3.out (by repeat (first | (with_reducible first | exact HB.out | apply below_alloc | apply pw_below_drewN | apply below_drew1 | refine below_set ?_ GE400.out) | exact HB.out))) | (with_reducible refine Kd.C_alloc ?_ _) | (with_reducible refine Kd.C_drewN ?_ _) | (with_reducible refine Kd.C_drew ?_))); (case side2 => exact HC399_3.out); rintro e w54 ⟨rfl, hb⟩; refine ⟨_, rfl, ?_⟩; have n0_ := Aside0.mk (Kd.R_below (R_up HO403.out) hb); have n1_ := Aside0.mk (blk_below (g := gb400) (blk_up BK400.out) hb); have n2_ := Aside0.mk (below_step (by repeat (first | (with_reducible first | exact HB.out | apply below_alloc | apply pw_below_drewN | apply below_drew1 | refine below_set ?_ GE400.out) | exact HB.out)) hb); clear HO403; clear BK400; clear HB; have HO403 := n0_; have BK400 := n1_; have HB := n2_; clear n0_ n1_ n2_; (try clear hb); (try clear hb2); (try clear hk); (try clear hi)))
           go_ret
           exact ⟨by first | rfl | (simp [errW_none, errW_some] <;> rfl) | (simp only [← hji5]; first | rfl | (simp [errW_none, errW_some] <;> rfl)) | (simp [*, errW_none, errW_some] <;> rfl), by repeat (first | (with_reducible first | exact HB.out | apply below_alloc | apply pw_below_drewN | apply below_drew1 | refine below_set ?_ GE400.out) | exact HB.out)⟩
         · rw [if_neg c44] at H
           have c44b0 : (((rd_T72 l0 a1).f0) == 8) = false := beq_eq_false_iff_ne.mpr c44
           have c44b1 : (((rd_T72 l0 a1).f0) != 8) = true := bne_iff_ne.mpr c44
           by_cases c55 : ((rd_T72 l0 a1).f0) = 9
           · rw [if_pos c55] at H
             have c55b0 : (((rd_T72 l0 a1).f0) == 9) = true := beq_iff_eq.mpr c55
             have c55b1 : (((rd_T72 l0 a1).f0) != 9) = false := bne_eq_false_iff_eq.mpr c55
             clear c55
             replace H := Option.bind_eq_some_iff.mp H
             obtain ⟨t413, A560, H⟩ := H
             (try dsimp only at H)
             have A56 := Aside0.mk A560
             clear A560
             by_cases c57 : 1 + t413.size ≤ 9223372036854775807
             case neg => rw [if_neg c57] at H; exact absurd H (by simp)
             rw [if_pos c57] at H
             have c57b0 := eq_true c57
             have c57b1 : decide (1 + t413.size ≤ 9223372036854775807) = true := decide_eq_true c57
             try have c57b2 : (9223372036854775807 < 1 + t413.size) = False := eq_false (Nat.not_lt.2 c57)
             by_cases c58 : (rdOf ByteArray.empty y401 (ji5)).size + ((⟨#[32]⟩ : ByteArray) ++ t413).size ≤ 9223372036854775807
             case neg => rw [if_neg c58] at H; exact absurd H (by simp)
             rw [if_pos c58] at H
             have c58b0 := eq_true c58
             have c58b1 : decide ((rdOf ByteArray.empty y401 (ji5)).size + ((⟨#[32]⟩ : ByteArray) ++ t413).size ≤ 9223372036854775807) = true := decide_eq_true c58
             try have c58b2 : (9223372036854775807 < (rdOf ByteArray.empty y401 (ji5)).size + ((⟨#[32]⟩ : ByteArray) ++ t413).size) = False := eq_false (Nat.not_lt.2 c58)
             (try (have c58b3 := c58b2; simp only [ByteArray.size_append] at c58b3))
             (try (have c58b4 : (9223372036854775807 < (rdOf ByteArray.empty y401 (ji5)).size + (1 + t413.size)) = False := eq_false (by have h_ := c58; simp only [ByteArray.size_append] at h_; have e0_ : (⟨#[32]⟩ : ByteArray).size = 1 := rfl; omega)))
             obtain rfl := Option.some.inj H
             have p399 : 0 ≤ (a1 : Int) := of_decide_eq_true (by first | (with_reducible assumption) | assumption)
             have q399 : a1 < (l0.length : Int) := of_decide_eq_true (by first | (with_reducible assumption) | assumption)
             obtain ⟨ad399, A399_2, c399_2, A399_3, c399_3, e399, hx399_0, hx399_1, hx399_2, hx399_3, hx399_4, hx399_5, hl399_2, hi399_2, hl399_3, hi399_3⟩ := at_T72 HR0.out a1 p399 q399
             cases e399
             have HR399_2 := Aside0.mk hi399_2
             have HC399_2 := Aside0.mk hl399_2
             clear hi399_2 hl399_2
             have HR399_3 := Aside0.mk hi399_3
             have HC399_3 := Aside0.mk hl399_3
             clear hi399_3 hl399_3
             replace p399 := eq_true p399
             replace q399 := eq_true q399
             go_enter Tryd.func46, Tryd.ntmps46
             go_wp2_with (first | ((with_reducible refine gate_dst (N := 5) rfl ?_); refine box_event ?hg (N := 5) ?hd (cs := #[.int .i64 0, .int .i64 0, .slice none 0 0, .slice none 0 0, .int .i64 0, .int .i64 0]) (t := 72) ?hr ?_; (case hd => rfl); (case hg => rfl); (case hr => first | (go_simp; done) | (go_simp; rfl)); intro gb400 hg w59 hbox hb; have n0_ := Aside0.mk (below_step (HB_up HB.out) hb); have n1_ := Aside0.mk (hbox); have n2_ := Aside0.mk ((by rw [hg]; exact (below_size (HB_up HB.out)) : w.heap.size ≤ gb400)); have n3_ := Aside0.mk ((by rw [hg]; exact (below_size (HB_up HB.out)) : w.heap.size ≤ gb400)); clear HB; have HB := n0_; have BK400 := n1_; have GW400 := n2_; have GE400 := n3_; clear n0_ n1_ n2_ n3_; clear hb hbox hg; have hcz60_0 : w59.cell? ⟨gb400, 0, none⟩ = some (.int .i64 0) := (blk_cell BK400.out 0).trans rfl; have hcz60_1 : w59.cell? ⟨gb400, 1, none⟩ = some (.int .i64 0) := (blk_cell BK400.out 1).trans rfl; have hcz60_2 : w59.cell? ⟨gb400, 2, none⟩ = some (.slice none 0 0) := (blk_cell BK400.out 2).trans rfl; have hcz60_3 : w59.cell? ⟨gb400, 3, none⟩ = some (.slice none 0 0) := (blk_cell BK400.out 3).trans rfl; have hcz60_4 : w59.cell? ⟨gb400, 4, none⟩ = some (.int .i64 0) := (blk_cell BK400.out 4).trans rfl; have hcz60_5 : w59.cell? ⟨gb400, 5, none⟩ = some (.int .i64 0) := (blk_cell BK400.out 5).trans rfl; have hfz60_0 := blk_frozen BK400.out 0; have hfz60_1 := blk_frozen BK400.out 1; have hfz60_2 := blk_frozen BK400.out 2; have hfz60_3 := blk_frozen BK400.out 3; have hfz60_4 := blk_frozen BK400.out 4; have hfz60_5 := blk_frozen BK400.out 5) | ((with_reducible refine gate_dst (N := 11) rfl ?_); refine Kd.R_lit Kd.string _ 9 ?hg (N := 11) ?hd (xs := ([(⟨#[97, 108, 108]⟩ : ByteArray), (⟨#[102, 108, 97, 103]⟩ : ByteArray), (⟨#[115, 105, 110, 99, 101]⟩ : ByteArray), (⟨#[98, 101, 102, 111, 114, 101]⟩ : ByteArray), (⟨#[108, 97, 114, 103, 101, 114]⟩ : ByteArray), (⟨#[115, 117, 98, 106, 101, 99, 116]⟩ : ByteArray), (⟨#[98, 111, 100, 121]⟩ : ByteArray), (⟨#[117, 105, 100]⟩ : ByteArray), (⟨#[110, 111, 116]⟩ : ByteArray), (⟨#[97, 110, 100]⟩ : ByteArray), (⟨#[111, 114]⟩ : ByteArray)] : List ByteArray)) (inner := [.string (⟨#[97, 108, 108]⟩ : ByteArray), .string (⟨#[102, 108, 97, 103]⟩ : ByteArray), .string (⟨#[115, 105, 110, 99, 101]⟩ : ByteArray), .string (⟨#[98, 101, 102, 111, 114, 101]⟩ : ByteArray), .string (⟨#[108, 97, 114, 103, 101, 114]⟩ : ByteArray), .string (⟨#[115, 117, 98, 106, 101, 99, 116]⟩ : ByteArray), .string (⟨#[98, 111, 100, 121]⟩ : ByteArray), .string (⟨#[117, 105, 100]⟩ : ByteArray), .string (⟨#[110, 111, 116]⟩ : ByteArray), .string (⟨#[97, 110, 100]⟩ : ByteArray), .string (⟨#[111, 114]⟩ : ByteArray)]) (ok := fun _ => True) (okp := fun _ => True) ?hr ?hp (fun _ hk => hk) trivial (Below.refl _ _) (Nat.le_refl _) (by simp) ?_; (case hd => rfl); (case hg => rfl); (case hr => first | (go_simp; done) | (go_simp; rfl)); (case hp => exact (Reps.one (show Kd.M Kd.string _ _ _ (⟨#[97, 108, 108]⟩ : ByteArray) [.string (⟨#[97, 108, 108]⟩ : ByteArray)] from rfl) (Reps.one (show Kd.M Kd.string _ _ _ (⟨#[102, 108, 97, 103]⟩ : ByteArray) [.string (⟨#[102, 108, 97, 103]⟩ : ByteArray)] from rfl) (Reps.one (show Kd.M Kd.string _ _ _ (⟨#[115, 105, 110, 99, 101]⟩ : ByteArray) [.string (⟨#[115, 105, 110, 99, 101]⟩ : ByteArray)] from rfl) (Reps.one (show Kd.M Kd.string _ _ _ (⟨#[98, 101, 102, 111, 114, 101]⟩ : ByteArray) [.string (⟨#[98, 101, 102, 111, 114, 101]⟩ : ByteArray)] from rfl) (Reps.one (show Kd.M Kd.string _ _ _ (⟨#[108, 97, 114, 103, 101, 114]⟩ : ByteArray) [.string (⟨#[108, 97, 114, 103, 101, 114]⟩ : ByteArray)] from rfl) (Reps.one (show Kd.M Kd.string _ _ _ (⟨#[115, 117, 98, 106, 101, 99, 116]⟩ : ByteArray) [.string (⟨#[115, 117, 98, 106, 101, 99, 116]⟩ : ByteArray)] from rfl) (Reps.one (show Kd.M Kd.string _ _ _ (⟨#[98, 111, 100, 121]⟩ : ByteArray) [.string (⟨#[98, 111, 100, 121]⟩ : ByteArray)] from rfl) (Reps.one (show Kd.M Kd.string _ _ _ (⟨#[117, 105, 100]⟩ : ByteArray) [.string (⟨#[117, 105, 100]⟩ : ByteArray)] from rfl) (Reps.one (show Kd.M Kd.string _ _ _ (⟨#[110, 111, 116]⟩ : ByteArray) [.string (⟨#[110, 111, 116]⟩ : ByteArray)] from rfl) (Reps.one (show Kd.M Kd.string _ _ _ (⟨#[97, 110, 100]⟩ : ByteArray) [.string (⟨#[97, 110, 100]⟩ : ByteArray)] from rfl) (Reps.one (show Kd.M Kd.string _ _ _ (⟨#[111, 114]⟩ : ByteArray) [.string (⟨#[111, 114]⟩ : ByteArray)] from rfl) (Reps.none _ _))))))))))))); intro v402 w61 ho62 hb hg_ hnew_; clear hg_ hnew_; (first | rw [← Ny401.out] at ho62 | (simp only [Int.reduceToNat] at ho62; rw [← Ny401.out] at ho62)); have n0_ := Aside0.mk (Kd.R_lower ho62 (below_size (by repeat (first | (with_reducible first | exact HB.out | apply below_alloc | apply pw_below_drewN | apply below_drew1 | refine below_set ?_ GE400.out) | exact HB.out)))); have n1_ := Aside0.mk (blk_below (g := gb400) (o := .cells #[.int .i64 ((rd_T72 l0 a1).f0), .int .i64 ((rd_T72 l0 a1).f1), .slice A399_2 ((rd_T72 l0 a1).f2).length c399_2, .slice A399_3 ((rd_T72 l0 a1).f3).length c399_3, .int .i64 ((rd_T72 l0 a1).f4), .int .i64 ((rd_T72 l0 a1).f5)] 72 (0, 0)) (by (with_reducible repeat (first | refine blk_drewN ?_ _ | refine blk_drew ?_ | refine blk_alloc ?_ _)); refine blk_put (cs := #[.int .i64 ((rd_T72 l0 a1).f0), .int .i64 ((rd_T72 l0 a1).f1), .slice A399_2 ((rd_T72 l0 a1).f2).length c399_2, .slice A399_3 ((rd_T72 l0 a1).f3).length c399_3, .int .i64 ((rd_T72 l0 a1).f4), .int .i64 0]) ?_ 5 _ rfl; (with_reducible repeat (first | refine blk_drewN ?_ _ | refine blk_drew ?_ | refine blk_alloc ?_ _)); refine blk_put (cs := #[.int .i64 ((rd_T72 l0 a1).f0), .int .i64 ((rd_T72 l0 a1).f1), .slice A399_2 ((rd_T72 l0 a1).f2).length c399_2, .slice A399_3 ((rd_T72 l0 a1).f3).length c399_3, .int .i64 0, .int .i64 0]) ?_ 4 _ rfl; (with_reducible repeat (first | refine blk_drewN ?_ _ | refine blk_drew ?_ | refine blk_alloc ?_ _)); refine blk_put (cs := #[.int .i64 ((rd_T72 l0 a1).f0), .int .i64 ((rd_T72 l0 a1).f1), .slice A399_2 ((rd_T72 l0 a1).f2).length c399_2, .slice none 0 0, .int .i64 0, .int .i64 0]) ?_ 3 _ rfl; (with_reducible repeat (first | refine blk_drewN ?_ _ | refine blk_drew ?_ | refine blk_alloc ?_ _)); refine blk_put (cs := #[.int .i64 ((rd_T72 l0 a1).f0), .int .i64 ((rd_T72 l0 a1).f1), .slice none 0 0, .slice none 0 0, .int .i64 0, .int .i64 0]) ?_ 2 _ rfl; (with_reducible repeat (first | refine blk_drewN ?_ _ | refine blk_drew ?_ | refine blk_alloc ?_ _)); refine blk_put (cs := #[.int .i64 ((rd_T72 l0 a1).f0), .int .i64 0, .slice none 0 0, .slice none 0 0, .int .i64 0, .int .i64 0]) ?_ 1 _ rfl; (with_reducible repeat (first | refine blk_drewN ?_ _ | refine blk_drew ?_ | refine blk_alloc ?_ _)); refine blk_put (cs := #[.int .i64 0, .int .i64 0, .slice none 0 0, .slice none 0 0, .int .i64 0, .int .i64 0]) ?_ 0 _ rfl; (with_reducible repeat (first | refine blk_drewN ?_ _ | refine blk_drew ?_ | refine blk_alloc ?_ _)); exact BK400.out) hb); have n2_ := Aside0.mk (below_step (by repeat (first | (with_reducible first | exact HB.out | apply below_alloc | apply pw_below_drewN | apply below_drew1 | refine below_set ?_ GE400.out) | exact HB.out)) hb); clear BK400; clear HB; have HO403 := n0_; have BK400 := n1_; have HB := n2_; clear n0_ n1_ n2_; clear hb ho62; have hcz63_0 : w61.cell? ⟨gb400, 0, none⟩ = some (.int .i64 ((rd_T72 l0 a1).f0)) := (blk_cell BK400.out 0).trans rfl; have hcz63_1 : w61.cell? ⟨gb400, 1, none⟩ = some (.int .i64 ((rd_T72 l0 a1).f1)) := (blk_cell BK400.out 1).trans rfl; have hcz63_2 : w61.cell? ⟨gb400, 2, none⟩ = some (.slice A399_2 ((rd_T72 l0 a1).f2).length c399_2) := (blk_cell BK400.out 2).trans rfl; have hcz63_3 : w61.cell? ⟨gb400, 3, none⟩ = some (.slice A399_3 ((rd_T72 l0 a1).f3).length c399_3) := (blk_cell BK400.out 3).trans rfl; have hcz63_4 : w61.cell? ⟨gb400, 4, none⟩ = some (.int .i64 ((rd_T72 l0 a1).f4)) := (blk_cell BK400.out 4).trans rfl; have hcz63_5 : w61.cell? ⟨gb400, 5, none⟩ = some (.int .i64 ((rd_T72 l0 a1).f5)) := (blk_cell BK400.out 5).trans rfl; have hfz63_0 := blk_frozen BK400.out 0; have hfz63_1 := blk_frozen BK400.out 1; have hfz63_2 := blk_frozen BK400.out 2; have hfz63_3 := blk_frozen BK400.out 3; have hfz63_4 := blk_frozen BK400.out 4; have hfz63_5 := blk_frozen BK400.out 5; obtain ⟨Ao64, co64, eo64⟩ := Kd.R_slice HO403.out; subst eo64; have p404 : 0 ≤ ((ji5) : Int) := of_decide_eq_true (by first | (with_reducible assumption) | assumption); have q404 : (ji5) < (y401.length : Int) := of_decide_eq_true (by first | (with_reducible assumption) | assumption); obtain ⟨ad404, e404, hx404_0⟩ := Kd.at_string (Kd.R_reads' HO403.out).2.2 (ji5) p404 q404; cases e404; replace p404 := eq_true p404; replace q404 := eq_true q404) | ((with_reducible refine gate_callee (f := 81) rfl ?_); refine goesL_ (some 30) rfl rfl Tryd.func81 (by kernel_rfl) rfl #[.int .i64 ((rd_T72 l0 a1).f0)] rfl (by (try simp only [List.map_toArray, List.map_cons, List.map_nil]); first | done | rfl | (simp only [List.length_drop, List.length_take]; rfl)) ?_; (with_reducible refine (impl_hasNum.calls ((rd_T72 l0 a1).f0) false _ A19.out).mono ?_); rintro e w' ⟨rfl, ⟨nd, rfl⟩⟩; refine ⟨_, rfl, ?_⟩) | ((with_reducible refine gate_callee (f := 83) rfl ?_); refine goesL_ (some 40) rfl rfl Tryd.func83 (by kernel_rfl) rfl #[.int .i64 ((rd_T72 l0 a1).f0)] rfl (by (try simp only [List.map_toArray, List.map_cons, List.map_nil]); first | done | rfl | (simp only [List.length_drop, List.length_take]; rfl)) ?_; (with_reducible refine (impl_hasCodes.calls ((rd_T72 l0 a1).f0) false _ A31.out).mono ?_); rintro e w' ⟨rfl, ⟨nd, rfl⟩⟩; refine ⟨_, rfl, ?_⟩) | ((with_reducible refine gate_callee (f := 46) rfl ?_); refine goesL_ (some 66) rfl rfl Tryd.func46 (by kernel_rfl) rfl #[.slice (some ad399) l0.length c0, .int .i64 ((rd_T72 l0 a1).f4)] rfl (by (try simp only [List.map_toArray, List.map_cons, List.map_nil]); first | done | rfl | (simp only [List.length_drop, List.length_take]; rfl)) ?_; (with_reducible refine (ih k (by omega) _ _ l0 ((rd_T72 l0 a1).f4) t413 _ ?side1 ?side2 (GL_up HG.out (by repeat (first | (with_reducible first | exact HB.out | apply below_alloc | apply pw_below_drewN | apply below_drew1 | refine below_set ?_ GE400.out) | exact HB.out))) A56.out).mono ?_); (case side1 => repeat (first | exact (Kd.C_below HR0.out (by repeat (first | (with_reducible first | exact HB.out | apply below_alloc | apply pw_below_drewN | apply below_drew1 | refine below_set ?_ GE400.out) | exact HB.out))) | (with_reducible refine Kd.C_alloc ?_ _) | (with_reducible refine Kd.C_drewN ?_ _) | (with_reducible refine Kd.C_drew ?_))); (case side2 => exact HC0.out); rintro e w65 ⟨rfl, hb⟩; refine ⟨_, rfl, ?_⟩; have n0_ := Aside0.mk (Kd.R_below (R_up HO403.out) hb); have n1_ := Aside0.mk (blk_below (g := gb400) (blk_up BK400.out) hb); have n2_ := Aside0.mk (below_step (by repeat (first | (with_reducible first | exact HB.out | apply below_alloc | apply pw_below_drewN | apply below_drew1 | refine below_set ?_ GE400.out) | exact HB.out)) hb); clear HO403; clear BK400; clear HB; have HO403 := n0_; have BK400 := n1_; have HB := n2_; clear n0_ n1_ n2_; (try clear hb); (try clear hb2); (try clear hk); (try clear hi)))
             go_ret
             exact ⟨by first | rfl | (simp [errW_none, errW_some] <;> rfl) | (simp only [← hji5]; first | rfl | (simp [errW_none, errW_some] <;> rfl)) | (simp [*, errW_none, errW_some] <;> rfl), by repeat (first | (with_reducible first | exact HB.out | apply below_alloc | apply pw_below_drewN | apply below_drew1 | refine below_set ?_ GE400.out) | exact HB.out)⟩
           · rw [if_neg c55] at H
             have c55b0 : (((rd_T72 l0 a1).f0) == 9) = false := beq_eq_false_iff_ne.mpr c55
             have c55b1 : (((rd_T72 l0 a1).f0) != 9) = true := bne_iff_ne.mpr c55
             by_cases c66 : ((rd_T72 l0 a1).f0) > 9
             · rw [if_pos c66] at H
               have c66b0 : decide (9 < ((rd_T72 l0 a1).f0)) = true := decide_eq_true c66
               clear c66
               replace H := Option.bind_eq_some_iff.mp H
               obtain ⟨t414, A670, H⟩ := H
               (try dsimp only at H)
               have A67 := Aside0.mk A670
               clear A670
               by_cases c68 : 1 + t414.size ≤ 9223372036854775807
               case neg => rw [if_neg c68] at H; exact absurd H (by simp)
               rw [if_pos c68] at H
               have c68b0 := eq_true c68
               have c68b1 : decide (1 + t414.size ≤ 9223372036854775807) = true := decide_eq_true c68
               try have c68b2 : (9223372036854775807 < 1 + t414.size) = False := eq_false (Nat.not_lt.2 c68)
               by_cases c69 : ((⟨#[32]⟩ : ByteArray) ++ t414).size + 1 ≤ 9223372036854775807
               case neg => rw [if_neg c69] at H; exact absurd H (by simp)
               rw [if_pos c69] at H
               have c69b0 := eq_true c69
               have c69b1 : decide (((⟨#[32]⟩ : ByteArray) ++ t414).size + 1 ≤ 9223372036854775807) = true := decide_eq_true c69
               try have c69b2 : (9223372036854775807 < ((⟨#[32]⟩ : ByteArray) ++ t414).size + 1) = False := eq_false (Nat.not_lt.2 c69)
               (try (have c69b3 := c69b2; simp only [ByteArray.size_append] at c69b3))
               (try (have c69b4 : (9223372036854775807 < 1 + t414.size + 1) = False := eq_false (by have h_ := c69; simp only [ByteArray.size_append] at h_; have e0_ : (⟨#[32]⟩ : ByteArray).size = 1 := rfl; omega)))
               replace H := Option.bind_eq_some_iff.mp H
               obtain ⟨t415, A700, H⟩ := H
               (try dsimp only at H)
               have A70 := Aside0.mk A700
               clear A700
               by_cases c71 : (((⟨#[32]⟩ : ByteArray) ++ t414) ++ (⟨#[32]⟩ : ByteArray)).size + t415.size ≤ 9223372036854775807
               case neg => rw [if_neg c71] at H; exact absurd H (by simp)
               rw [if_pos c71] at H
               have c71b0 := eq_true c71
               have c71b1 : decide ((((⟨#[32]⟩ : ByteArray) ++ t414) ++ (⟨#[32]⟩ : ByteArray)).size + t415.size ≤ 9223372036854775807) = true := decide_eq_true c71
               try have c71b2 : (9223372036854775807 < (((⟨#[32]⟩ : ByteArray) ++ t414) ++ (⟨#[32]⟩ : ByteArray)).size + t415.size) = False := eq_false (Nat.not_lt.2 c71)
               (try (have c71b3 := c71b2; simp only [ByteArray.size_append] at c71b3))
               (try (have c71b4 : (9223372036854775807 < 1 + t414.size + 1 + t415.size) = False := eq_false (by have h_ := c71; simp only [ByteArray.size_append] at h_; have e0_ : (⟨#[32]⟩ : ByteArray).size = 1 := rfl; omega)))
               by_cases c72 : (rdOf ByteArray.empty y401 (ji5)).size + ((((⟨#[32]⟩ : ByteArray) ++ t414) ++ (⟨#[32]⟩ : ByteArray)) ++ t415).size ≤ 9223372036854775807
               case neg => rw [if_neg c72] at H; exact absurd H (by simp)
               rw [if_pos c72] at H
               have c72b0 := eq_true c72
               have c72b1 : decide ((rdOf ByteArray.empty y401 (ji5)).size + ((((⟨#[32]⟩ : ByteArray) ++ t414) ++ (⟨#[32]⟩ : ByteArray)) ++ t415).size ≤ 9223372036854775807) = true := decide_eq_true c72
               try have c72b2 : (9223372036854775807 < (rdOf ByteArray.empty y401 (ji5)).size + ((((⟨#[32]⟩ : ByteArray) ++ t414) ++ (⟨#[32]⟩ : ByteArray)) ++ t415).size) = False := eq_false (Nat.not_lt.2 c72)
               (try (have c72b3 := c72b2; simp only [ByteArray.size_append] at c72b3))
               (try (have c72b4 : (9223372036854775807 < (rdOf ByteArray.empty y401 (ji5)).size + (1 + t414.size + 1 + t415.size)) = False := eq_false (by have h_ := c72; simp only [ByteArray.size_append] at h_; have e0_ : (⟨#[32]⟩ : ByteArray).size = 1 := rfl; omega)))
               obtain rfl := Option.some.inj H
               have p399 : 0 ≤ (a1 : Int) := of_decide_eq_true (by first | (with_reducible assumption) | assumption)
               have q399 : a1 < (l0.length : Int) := of_decide_eq_true (by first | (with_reducible assumption) | assumption)
               obtain ⟨ad399, A399_2, c399_2, A399_3, c399_3, e399, hx399_0, hx399_1, hx399_2, hx399_3, hx399_4, hx399_5, hl399_2, hi399_2, hl399_3, hi399_3⟩ := at_T72 HR0.out a1 p399 q399
               cases e399
               have HR399_2 := Aside0.mk hi399_2
               have HC399_2 := Aside0.mk hl399_2
               clear hi399_2 hl399_2
               have HR399_3 := Aside0.mk hi399_3
               have HC399_3 := Aside0.mk hl399_3
               clear hi399_3 hl399_3
               replace p399 := eq_true p399
               replace q399 := eq_true q399
               go_enter Tryd.func46, Tryd.ntmps46
               try go_wp2_with (first | ((with_reducible refine gate_dst (N := 5) rfl ?_); refine box_event ?hg (N := 5) ?hd (cs := #[.int .i64 0, .int .i64 0, .slice none 0 0, .slice none 0 0, .int .i64 0, .int .i64 0]) (t := 72) ?hr ?_; (case hd => rfl); (case hg => rfl); (case hr => first | (go_simp; done) | (go_simp; rfl)); intro gb400 hg w73 hbox hb; have n0_ := Aside0.mk (below_step (HB_up HB.out) hb); have n1_ := Aside0.mk (hbox); have n2_ := Aside0.mk ((by rw [hg]; exact (below_size (HB_up HB.out)) : w.heap.size ≤ gb400)); have n3_ := Aside0.mk ((by rw [hg]; exact (below_size (HB_up HB.out)) : w.heap.size ≤ gb400)); clear HB; have HB := n0_; have BK400 := n1_; have GW400 := n2_; have GE400 := n3_; clear n0_ n1_ n2_ n3_; clear hb hbox hg; have hcz74_0 : w73.cell? ⟨gb400, 0, none⟩ = some (.int .i64 0) := (blk_cell BK400.out 0).trans rfl; have hcz74_1 : w73.cell? ⟨gb400, 1, none⟩ = some (.int .i64 0) := (blk_cell BK400.out 1).trans rfl; have hcz74_2 : w73.cell? ⟨gb400, 2, none⟩ = some (.slice none 0 0) := (blk_cell BK400.out 2).trans rfl; have hcz74_3 : w73.cell? ⟨gb400, 3, none⟩ = some (.slice none 0 0) := (blk_cell BK400.out 3).trans rfl; have hcz74_4 : w73.cell? ⟨gb400, 4, none⟩ = some (.int .i64 0) := (blk_cell BK400.out 4).trans rfl; have hcz74_5 : w73.cell? ⟨gb400, 5, none⟩ = some (.int .i64 0) := (blk_cell BK400.out 5).trans rfl; have hfz74_0 := blk_frozen BK400.out 0; have hfz74_1 := blk_frozen BK400.out 1; have hfz74_2 := blk_frozen BK400.out 2; have hfz74_3 := blk_frozen BK400.out 3; have hfz74_4 := blk_frozen BK400.out 4; have hfz74_5 := blk_frozen BK400.out 5) | ((with_reducible refine gate_dst (N := 11) rfl ?_); refine Kd.R_lit Kd.string _ 9 ?hg (N := 11) ?hd (xs := ([(⟨#[97, 108, 108]⟩ : ByteArray), (⟨#[102, 108, 97, 103]⟩ : ByteArray), (⟨#[115, 105, 110, 99, 101]⟩ : ByteArray), (⟨#[98, 101, 102, 111, 114, 101]⟩ : ByteArray), (⟨#[108, 97, 114, 103, 101, 114]⟩ : ByteArray), (⟨#[115, 117, 98, 106, 101, 99, 116]⟩ : ByteArray), (⟨#[98, 111, 100, 121]⟩ : ByteArray), (⟨#[117, 105, 100]⟩ : ByteArray), (⟨#[110, 111, 116]⟩ : ByteArray), (⟨#[97, 110, 100]⟩ : ByteArray), (⟨#[111, 114]⟩ : ByteArray)] : List ByteArray)) (inner := [.string (⟨#[97, 108, 108]⟩ : ByteArray), .string (⟨#[102, 108, 97, 103]⟩ : ByteArray), .string (⟨#[115, 105, 110, 99, 101]⟩ : ByteArray), .string (⟨#[98, 101, 102, 111, 114, 101]⟩ : ByteArray), .string (⟨#[108, 97, 114, 103, 101, 114]⟩ : ByteArray), .string (⟨#[115, 117, 98, 106, 101, 99, 116]⟩ : ByteArray), .string (⟨#[98, 111, 100, 121]⟩ : ByteArray), .string (⟨#[117, 105, 100]⟩ : ByteArray), .string (⟨#[110, 111, 116]⟩ : ByteArray), .string (⟨#[97, 110, 100]⟩ : ByteArray), .string (⟨#[111, 114]⟩ : ByteArray)]) (ok := fun _ => True) (okp := fun _ => True) ?hr ?hp (fun _ hk => hk) trivial (Below.refl _ _) (Nat.le_refl _) (by simp) ?_; (case hd => rfl); (case hg => rfl); (case hr => first | (go_simp; done) | (go_simp; rfl)); (case hp => exact (Reps.one (show Kd.M Kd.string _ _ _ (⟨#[97, 108, 108]⟩ : ByteArray) [.string (⟨#[97, 108, 108]⟩ : ByteArray)] from rfl) (Reps.one (show Kd.M Kd.string _ _ _ (⟨#[102, 108, 97, 103]⟩ : ByteArray) [.string (⟨#[102, 108, 97, 103]⟩ : ByteArray)] from rfl) (Reps.one (show Kd.M Kd.string _ _ _ (⟨#[115, 105, 110, 99, 101]⟩ : ByteArray) [.string (⟨#[115, 105, 110, 99, 101]⟩ : ByteArray)] from rfl) (Reps.one (show Kd.M Kd.string _ _ _ (⟨#[98, 101, 102, 111, 114, 101]⟩ : ByteArray) [.string (⟨#[98, 101, 102, 111, 114, 101]⟩ : ByteArray)] from rfl) (Reps.one (show Kd.M Kd.string _ _ _ (⟨#[108, 97, 114, 103, 101, 114]⟩ : ByteArray) [.string (⟨#[108, 97, 114, 103, 101, 114]⟩ : ByteArray)] from rfl) (Reps.one (show Kd.M Kd.string _ _ _ (⟨#[115, 117, 98, 106, 101, 99, 116]⟩ : ByteArray) [.string (⟨#[115, 117, 98, 106, 101, 99, 116]⟩ : ByteArray)] from rfl) (Reps.one (show Kd.M Kd.string _ _ _ (⟨#[98, 111, 100, 121]⟩ : ByteArray) [.string (⟨#[98, 111, 100, 121]⟩ : ByteArray)] from rfl) (Reps.one (show Kd.M Kd.string _ _ _ (⟨#[117, 105, 100]⟩ : ByteArray) [.string (⟨#[117, 105, 100]⟩ : ByteArray)] from rfl) (Reps.one (show Kd.M Kd.string _ _ _ (⟨#[110, 111, 116]⟩ : ByteArray) [.string (⟨#[110, 111, 116]⟩ : ByteArray)] from rfl) (Reps.one (show Kd.M Kd.string _ _ _ (⟨#[97, 110, 100]⟩ : ByteArray) [.string (⟨#[97, 110, 100]⟩ : ByteArray)] from rfl) (Reps.one (show Kd.M Kd.string _ _ _ (⟨#[111, 114]⟩ : ByteArray) [.string (⟨#[111, 114]⟩ : ByteArray)] from rfl) (Reps.none _ _))))))))))))); intro v402 w75 ho76 hb hg_ hnew_; clear hg_ hnew_; (first | rw [← Ny401.out] at ho76 | (simp only [Int.reduceToNat] at ho76; rw [← Ny401.out] at ho76)); have n0_ := Aside0.mk (Kd.R_lower ho76 (below_size (by repeat (first | (with_reducible first | exact HB.out | apply below_alloc | apply pw_below_drewN | apply below_drew1 | refine below_set ?_ GE400.out) | exact HB.out)))); have n1_ := Aside0.mk (blk_below (g := gb400) (o := .cells #[.int .i64 ((rd_T72 l0 a1).f0), .int .i64 ((rd_T72 l0 a1).f1), .slice A399_2 ((rd_T72 l0 a1).f2).length c399_2, .slice A399_3 ((rd_T72 l0 a1).f3).length c399_3, .int .i64 ((rd_T72 l0 a1).f4), .int .i64 ((rd_T72 l0 a1).f5)] 72 (0, 0)) (by (with_reducible repeat (first | refine blk_drewN ?_ _ | refine blk_drew ?_ | refine blk_alloc ?_ _)); refine blk_put (cs := #[.int .i64 ((rd_T72 l0 a1).f0), .int .i64 ((rd_T72 l0 a1).f1), .slice A399_2 ((rd_T72 l0 a1).f2).length c399_2, .slice A399_3 ((rd_T72 l0 a1).f3).length c399_3, .int .i64 ((rd_T72 l0 a1).f4), .int .i64 0]) ?_ 5 _ rfl; (with_reducible repeat (first | refine blk_drewN ?_ _ | refine blk_drew ?_ | refine blk_alloc ?_ _)); refine blk_put (cs := #[.int .i64 ((rd_T72 l0 a1).f0), .int .i64 ((rd_T72 l0 a1).f1), .slice A399_2 ((rd_T72 l0 a1).f2).length c399_2, .slice A399_3 ((rd_T72 l0 a1).f3).length c399_3, .int .i64 0, .int .i64 0]) ?_ 4 _ rfl; (with_reducible repeat (first | refine blk_drewN ?_ _ | refine blk_drew ?_ | refine blk_alloc ?_ _)); refine blk_put (cs := #[.int .i64 ((rd_T72 l0 a1).f0), .int .i64 ((rd_T72 l0 a1).f1), .slice A399_2 ((rd_T72 l0 a1).f2).length c399_2, .slice none 0 0, .int .i64 0, .int .i64 0]) ?_ 3 _ rfl; (with_reducible repeat (first | refine blk_drewN ?_ _ | refine blk_drew ?_ | refine blk_alloc ?_ _)); refine blk_put (cs := #[.int .i64 ((rd_T72 l0 a1).f0), .int .i64 ((rd_T72 l0 a1).f1), .slice none 0 0, .slice none 0 0, .int .i64 0, .int .i64 0]) ?_ 2 _ rfl; (with_reducible repeat (first | refine blk_drewN ?_ _ | refine blk_drew ?_ | refine blk_alloc ?_ _)); refine blk_put (cs := #[.int .i64 ((rd_T72 l0 a1).f0), .int .i64 0, .slice none 0 0, .slice none 0 0, .int .i64 0, .int .i64 0]) ?_ 1 _ rfl; (with_reducible repeat (first | refine blk_drewN ?_ _ | refine blk_drew ?_ | refine blk_alloc ?_ _)); refine blk_put (cs := #[.int .i64 0, .int .i64 0, .slice none 0 0, .slice none 0 0, .int .i64 0, .int .i64 0]) ?_ 0 _ rfl; (with_reducible repeat (first | refine blk_drewN ?_ _ | refine blk_drew ?_ | refine blk_alloc ?_ _)); exact BK400.out) hb); have n2_ := Aside0.mk (below_step (by repeat (first | (with_reducible first | exact HB.out | apply below_alloc | apply pw_below_drewN | apply below_drew1 | refine below_set ?_ GE400.out) | exact HB.out)) hb); clear BK400; clear HB; have HO403 := n0_; have BK400 := n1_; have HB := n2_; clear n0_ n1_ n2_; clear hb ho76; have hcz77_0 : w75.cell? ⟨gb400, 0, none⟩ = some (.int .i64 ((rd_T72 l0 a1).f0)) := (blk_cell BK400.out 0).trans rfl; have hcz77_1 : w75.cell? ⟨gb400, 1, none⟩ = some (.int .i64 ((rd_T72 l0 a1).f1)) := (blk_cell BK400.out 1).trans rfl; have hcz77_2 : w75.cell? ⟨gb400, 2, none⟩ = some (.slice A399_2 ((rd_T72 l0 a1).f2).length c399_2) := (blk_cell BK400.out 2).trans rfl; have hcz77_3 : w75.cell? ⟨gb400, 3, none⟩ = some (.slice A399_3 ((rd_T72 l0 a1).f3).length c399_3) := (blk_cell BK400.out 3).trans rfl; have hcz77_4 : w75.cell? ⟨gb400, 4, none⟩ = some (.int .i64 ((rd_T72 l0 a1).f4)) := (blk_cell BK400.out 4).trans rfl; have hcz77_5 : w75.cell? ⟨gb400, 5, none⟩ = some (.int .i64 ((rd_T72 l0 a1).f5)) := (blk_cell BK400.out 5).trans rfl; have hfz77_0 := blk_frozen BK400.out 0; have hfz77_1 := blk_frozen BK400.out 1; have hfz77_2 := blk_frozen BK400.out 2; have hfz77_3 := blk_frozen BK400.out 3; have hfz77_4 := blk_frozen BK400.out 4; have hfz77_5 := blk_frozen BK400.out 5; obtain ⟨Ao78, co78, eo78⟩ := Kd.R_slice HO403.out; subst eo78; have p404 : 0 ≤ ((ji5) : Int) := of_decide_eq_true (by first | (with_reducible assumption) | assumption); have q404 : (ji5) < (y401.length : Int) := of_decide_eq_true (by first | (with_reducible assumption) | assumption); obtain ⟨ad404, e404, hx404_0⟩ := Kd.at_string (Kd.R_reads' HO403.out).2.2 (ji5) p404 q404; cases e404; replace p404 := eq_true p404; replace q404 := eq_true q404) | ((with_reducible refine gate_callee (f := 81) rfl ?_); refine goesL_ (some 30) rfl rfl Tryd.func81 (by kernel_rfl) rfl #[.int .i64 ((rd_T72 l0 a1).f0)] rfl (by (try simp only [List.map_toArray, List.map_cons, List.map_nil]); first | done | rfl | (simp only [List.length_drop, List.length_take]; rfl)) ?_; (with_reducible refine (impl_hasNum.calls ((rd_T72 l0 a1).f0) false _ A19.out).mono ?_); rintro e w' ⟨rfl, ⟨nd, rfl⟩⟩; refine ⟨_, rfl, ?_⟩) | ((with_reducible refine gate_callee (f := 83) rfl ?_); refine goesL_ (some 40) rfl rfl Tryd.func83 (by kernel_rfl) rfl #[.int .i64 ((rd_T72 l0 a1).f0)] rfl (by (try simp only [List.map_toArray, List.map_cons, List.map_nil]); first | done | rfl | (simp only [List.length_drop, List.length_take]; rfl)) ?_; (with_reducible refine (impl_hasCodes.calls ((rd_T72 l0 a1).f0) false _ A31.out).mono ?_); rintro e w' ⟨rfl, ⟨nd, rfl⟩⟩; refine ⟨_, rfl, ?_⟩))
               (try (rw [drewN_self w75]; generalize hq_ : World.drewN w75 _ = w75; have n0_ : Aside0 (Kd.R Kd.string 9 w75 w.heap.size (fun _ => True) (.slice (some ad404) y401.length co78) y401) := ⟨by rw [← hq_]; exact (R_up HO403.out)⟩; have n1_ : Aside0 (w75.heap[gb400]? = some (.cells #[.int .i64 ((rd_T72 l0 a1).f0), .int .i64 ((rd_T72 l0 a1).f1), .slice A399_2 ((rd_T72 l0 a1).f2).length c399_2, .slice A399_3 ((rd_T72 l0 a1).f3).length c399_3, .int .i64 ((rd_T72 l0 a1).f4), .int .i64 ((rd_T72 l0 a1).f5)] 72 (0, 0))) := ⟨by rw [← hq_]; exact (blk_up BK400.out)⟩; have n2_ : Aside0 (Below w.heap.size w w75) := ⟨by rw [← hq_]; exact (by repeat (first | (with_reducible first | exact HB.out | apply below_alloc | apply pw_below_drewN | apply below_drew1 | refine below_set ?_ GE400.out) | exact HB.out))⟩; clear HO403 BK400 HB hq_; have HO403 := n0_; have BK400 := n1_; have HB := n2_; clear n0_ n1_ n2_))
               have n1_ := Aside0.mk (blk_drew BK400.out)
               have n2_ := Aside0.mk (below_drew1 HB.out)
               clear HO403
               clear BK400
               clear HB
               have BK400 := n1_
               have HB := n2_
               clear n1_ n2_
               refine start_ (n := 14) (S := fun w' => w'.cell? ⟨gb400, 0, none⟩ = some (.int .i64 ((rd_T72 l0 a1).f0)) ∧ w'.cell? ⟨gb400, 1, none⟩ = some (.int .i64 ((rd_T72 l0 a1).f1)) ∧ w'.cell? ⟨gb400, 2, none⟩ = some (.slice A399_2 ((rd_T72 l0 a1).f2).length c399_2) ∧ w'.cell? ⟨gb400, 3, none⟩ = some (.slice A399_3 ((rd_T72 l0 a1).f3).length c399_3) ∧ w'.cell? ⟨gb400, 4, none⟩ = some (.int .i64 ((rd_T72 l0 a1).f4)) ∧ w'.cell? ⟨gb400, 5, none⟩ = some (.int .i64 ((rd_T72 l0 a1).f5))) (ds := []) #[false, false, false, false, false, false, false, false, false, false, false, false, false, false] (by kernel_rfl) rfl rfl ⟨(blk_cell BK400.out 0).trans rfl, (blk_cell BK400.out 1).trans rfl, (blk_cell BK400.out 2).trans rfl, (blk_cell BK400.out 3).trans rfl, (blk_cell BK400.out 4).trans rfl, (blk_cell BK400.out 5).trans rfl⟩ (fun hHeld => ?_); refine with_tabW impl_termText.tab14 impl_termText.bits14 (fun HT_ HW_ => ?_)
               generalize w75.drew = w79 at BK400 HB hHeld ⊢
               refine pu_ (i := 0) (N := some 73) (v := ?_) (a' := ?_) rfl rfl (any_of HT_.out (by kernel_rfl)) (fun _ _ _ h => h) (Or.inl ⟨by rfl, ?_⟩) ?_ ?_; rotate_left
               · intro w'; go_simp; all_goals (first | with_reducible rfl | (simp [Instr.field, go_sem]; rfl))
               rotate_left
               · simp only [Act.put, List.setIfInBounds_toArray, List.set_cons_zero, List.set_cons_succ, i64_w, i32_w]; rfl
               refine pu_ (i := 1) (N := some 74) (v := ?_) (a' := ?_) rfl rfl (any_of HT_.out (by kernel_rfl)) (fun _ _ _ h => h) (Or.inl ⟨by rfl, ?_⟩) ?_ ?_; rotate_left
               · intro w'; go_simp; all_goals (first | with_reducible rfl | (simp [Instr.field, go_sem]; rfl))
               rotate_left
               · simp only [Act.put, List.setIfInBounds_toArray, List.set_cons_zero, List.set_cons_succ, i64_w, i32_w]; rfl
               refine pu_ (i := 2) (N := some 75) (v := ?_) (a' := ?_) rfl rfl (any_of HT_.out (by kernel_rfl)) (fun _ _ _ h => h) (Or.inl ⟨by rfl, ?_⟩) ?_ ?_; rotate_left
               · intro w'; go_simp; all_goals (first | with_reducible rfl | (simp [Instr.field, go_sem]; rfl))
               rotate_left
               · simp only [Act.put, List.setIfInBounds_toArray, List.set_cons_zero, List.set_cons_succ, i64_w, i32_w]; rfl
               refine pu_ (i := 7) (N := some 80) (v := ?_) (a' := ?_) rfl rfl (any_of HT_.out (by kernel_rfl)) (fun _ _ _ h => h) (Or.inl ⟨by rfl, ?_⟩) ?_ ?_; rotate_left
               · intro w'; go_simp; all_goals (first | with_reducible rfl | (simp [Instr.field, go_sem]; rfl))
               rotate_left
               · simp only [Act.put, List.setIfInBounds_toArray, List.set_cons_zero, List.set_cons_succ, i64_w, i32_w]; rfl
               refine pu_ (i := 8) (N := some 81) (v := ?_) (a' := ?_) rfl rfl (any_of HT_.out (by kernel_rfl)) (fun _ _ _ h => h) (Or.inl ⟨by rfl, ?_⟩) ?_ ?_; rotate_left
               · intro w'; go_simp; all_goals (first | with_reducible rfl | (simp [Instr.field, go_sem]; rfl))
               rotate_left
               · simp only [Act.put, List.setIfInBounds_toArray, List.set_cons_zero, List.set_cons_succ, i64_w, i32_w]; rfl
               refine ta_ (i := 3) (N := some 76) (v := ?_) (a' := ?_) rfl rfl (take_ofW HT_.out HW_.out (by kernel_rfl)) (fun _ _ _ h => h) (Or.inl ⟨by rfl, ?_⟩) hHeld ?_ ?_; rotate_left
               · rintro w' ⟨s0, s1, s2, s3, s4, s5⟩; go_simp; all_goals (first | with_reducible rfl | (simp [Instr.field, go_sem]; rfl))
               rotate_left
               · simp only [Act.put, List.setIfInBounds_toArray, List.set_cons_zero, List.set_cons_succ, i64_w, i32_w]; rfl
               refine ta_ (i := 9) (N := some 82) (v := ?_) (a' := ?_) rfl rfl (take_ofW HT_.out HW_.out (by kernel_rfl)) (fun _ _ _ h => h) (Or.inl ⟨by rfl, ?_⟩) hHeld ?_ ?_; rotate_left
               · rintro w' ⟨s0, s1, s2, s3, s4, s5⟩; go_simp; all_goals (first | with_reducible rfl | (simp [Instr.field, go_sem]; rfl))
               rotate_left
               · simp only [Act.put, List.setIfInBounds_toArray, List.set_cons_zero, List.set_cons_succ, i64_w, i32_w]; rfl
               refine on_ (i := 4) (N := some 77) rfl rfl (one_of HT_.out (by kernel_rfl)) (by decide) (fun K hK => ?_)
               refine goes_ Tryd.func46 (by kernel_rfl) rfl #[.slice (some ad399) l0.length c0, .int .i64 ((rd_T72 l0 a1).f4)] (by rfl) rfl rfl (by (try simp only [List.map_toArray, List.map_cons, List.map_nil]); first | done | rfl | (simp only [List.length_drop, List.length_take]; rfl)) ?_
               with_reducible refine (ih k (by omega) _ _ l0 ((rd_T72 l0 a1).f4) t414 _ ?side1 ?side2 (GL_up HG.out (by repeat (first | (with_reducible first | exact HB.out | apply below_alloc | apply pw_below_drewN | apply below_drew1 | refine below_set ?_ GE400.out) | exact HB.out))) A67.out).mono ?_
               (case side1 => exact C_up (Kd.C_below HR0.out HB.out))
               (case side2 => exact HC0.out)
               rintro e w80 ⟨rfl, hb⟩
               refine ⟨_, rfl, ?_⟩
               have n1_ := Aside0.mk (blk_below (g := gb400) (blk_up BK400.out) hb)
               have n2_ := Aside0.mk (below_step (by repeat (first | (with_reducible first | exact HB.out | apply below_alloc | apply pw_below_drewN | apply below_drew1 | refine below_set ?_ GE400.out) | exact HB.out)) hb)
               clear BK400
               clear HB
               have BK400 := n1_
               have HB := n2_
               clear n1_ n2_
               (try clear hb)
               (try clear hb2)
               (try clear hk)
               (try clear hi)
               refine hK.out _ _ ⟨(blk_cell BK400.out 0).trans rfl, (blk_cell BK400.out 1).trans rfl, (blk_cell BK400.out 2).trans rfl, (blk_cell BK400.out 3).trans rfl, (blk_cell BK400.out 4).trans rfl, (blk_cell BK400.out 5).trans rfl⟩ (fun hHeld => ?_)
               clear hK K
               refine norm_ (a' := ?_) ?_ ?_
               rotate_left
               · show Act.put _ (some 77) _ = _
                 simp only [Act.put, List.setIfInBounds_toArray, List.set_cons_zero, List.set_cons_succ, i64_w, i32_w]
                 rfl
               refine pu_ (i := 5) (N := some 78) (v := ?_) (a' := ?_) rfl rfl (any_of HT_.out (by kernel_rfl)) (fun _ _ _ h => h) (Or.inl ⟨by rfl, ?_⟩) ?_ ?_; rotate_left
               · intro w'; go_simp; all_goals (first | with_reducible rfl | (simp [Instr.field, go_sem]; rfl))
               rotate_left
               · simp only [Act.put, List.setIfInBounds_toArray, List.set_cons_zero, List.set_cons_succ, i64_w, i32_w]; rfl
               refine pu_ (i := 6) (N := some 79) (v := ?_) (a' := ?_) rfl rfl (any_of HT_.out (by kernel_rfl)) (fun _ _ _ h => h) (Or.inl ⟨by rfl, ?_⟩) ?_ ?_; rotate_left
               · intro w'; go_simp; all_goals (first | with_reducible rfl | (simp [Instr.field, go_sem]; rfl))
               rotate_left
               · simp only [Act.put, List.setIfInBounds_toArray, List.set_cons_zero, List.set_cons_succ, i64_w, i32_w]; rfl
               refine on_ (i := 10) (N := some 83) rfl rfl (one_of HT_.out (by kernel_rfl)) (by decide) (fun K hK => ?_)
               refine goes_ Tryd.func46 (by kernel_rfl) rfl #[.slice (some ad399) l0.length c0, .int .i64 ((rd_T72 l0 a1).f5)] (by rfl) rfl rfl (by (try simp only [List.map_toArray, List.map_cons, List.map_nil]); first | done | rfl | (simp only [List.length_drop, List.length_take]; rfl)) ?_
               with_reducible refine (ih k (by omega) _ _ l0 ((rd_T72 l0 a1).f5) t415 _ ?side1 ?side2 (GL_up HG.out (by repeat (first | (with_reducible first | exact HB.out | apply below_alloc | apply pw_below_drewN | apply below_drew1 | refine below_set ?_ GE400.out) | exact HB.out))) A70.out).mono ?_
               (case side1 => exact C_up (Kd.C_below HR0.out HB.out))
               (case side2 => exact HC0.out)
               rintro e w81 ⟨rfl, hb⟩
               refine ⟨_, rfl, ?_⟩
               have n1_ := Aside0.mk (blk_below (g := gb400) (blk_up BK400.out) hb)
               have n2_ := Aside0.mk (below_step (by repeat (first | (with_reducible first | exact HB.out | apply below_alloc | apply pw_below_drewN | apply below_drew1 | refine below_set ?_ GE400.out) | exact HB.out)) hb)
               clear BK400
               clear HB
               have BK400 := n1_
               have HB := n2_
               clear n1_ n2_
               (try clear hb)
               (try clear hb2)
               (try clear hk)
               (try clear hi)
               refine hK.out _ _ ⟨(blk_cell BK400.out 0).trans rfl, (blk_cell BK400.out 1).trans rfl, (blk_cell BK400.out 2).trans rfl, (blk_cell BK400.out 3).trans rfl, (blk_cell BK400.out 4).trans rfl, (blk_cell BK400.out 5).trans rfl⟩ (fun hHeld => ?_)
               clear hK K
               refine norm_ (a' := ?_) ?_ ?_
               rotate_left
               · show Act.put _ (some 83) _ = _
                 simp only [Act.put, List.setIfInBounds_toArray, List.set_cons_zero, List.set_cons_succ, i64_w, i32_w]
                 rfl
               refine pu_ (i := 11) (N := some 84) (v := ?_) (a' := ?_) rfl rfl (any_of HT_.out (by kernel_rfl)) (fun _ _ _ h => h) (Or.inl ⟨by rfl, ?_⟩) ?_ ?_; rotate_left
               · intro w'; go_simp; all_goals (first | with_reducible rfl | (simp [Instr.field, go_sem]; rfl))
               rotate_left
               · simp only [Act.put, List.setIfInBounds_toArray, List.set_cons_zero, List.set_cons_succ, i64_w, i32_w]; rfl
               refine pu_ (i := 12) (N := some 85) (v := ?_) (a' := ?_) rfl rfl (any_of HT_.out (by kernel_rfl)) (fun _ _ _ h => h) (Or.inl ⟨by rfl, ?_⟩) ?_ ?_; rotate_left
               · intro w'; go_simp; all_goals (first | with_reducible rfl | (simp [Instr.field, go_sem]; rfl))
               rotate_left
               · simp only [Act.put, List.setIfInBounds_toArray, List.set_cons_zero, List.set_cons_succ, i64_w, i32_w]; rfl
               refine pu_ (i := 13) (N := some 6) (v := ?_) (a' := ?_) rfl rfl (any_of HT_.out (by kernel_rfl)) (fun _ _ _ h => h) (Or.inl ⟨by rfl, ?_⟩) ?_ ?_; rotate_left
               · intro w'; go_simp; all_goals (first | with_reducible rfl | (simp [Instr.field, go_sem]; rfl))
               rotate_left
               · simp only [Act.put, List.setIfInBounds_toArray, List.set_cons_zero, List.set_cons_succ, i64_w, i32_w]; rfl
               refine done_ (done_of HT_.out (by kernel_rfl)) ?_
               try go_wp2
               go_ret
               exact ⟨by first | rfl | (simp [errW_none, errW_some] <;> rfl) | (simp only [← hji5]; first | rfl | (simp [errW_none, errW_some] <;> rfl)) | (simp [*, errW_none, errW_some] <;> rfl), by repeat (first | (with_reducible first | exact HB.out | apply below_alloc | apply pw_below_drewN | apply below_drew1 | refine below_set ?_ GE400.out) | exact HB.out)⟩
             · rw [if_neg c66] at H
               have c66b0 : decide (9 < ((rd_T72 l0 a1).f0)) = false := decide_eq_false c66
               clear c66
               obtain rfl := Option.some.inj H
               have p399 : 0 ≤ (a1 : Int) := of_decide_eq_true (by first | (with_reducible assumption) | assumption)
               have q399 : a1 < (l0.length : Int) := of_decide_eq_true (by first | (with_reducible assumption) | assumption)
               obtain ⟨ad399, A399_2, c399_2, A399_3, c399_3, e399, hx399_0, hx399_1, hx399_2, hx399_3, hx399_4, hx399_5, hl399_2, hi399_2, hl399_3, hi399_3⟩ := at_T72 HR0.out a1 p399 q399
               cases e399
               have HR399_2 := Aside0.mk hi399_2
               have HC399_2 := Aside0.mk hl399_2
               clear hi399_2 hl399_2
               have HR399_3 := Aside0.mk hi399_3
               have HC399_3 := Aside0.mk hl399_3
               clear hi399_3 hl399_3
               replace p399 := eq_true p399
               replace q399 := eq_true q399
               go_enter Tryd.func46, Tryd.ntmps46
               go_wp2_with (first | ((with_reducible refine gate_dst (N := 5) rfl ?_); refine box_event ?hg (N := 5) ?hd (cs := #[.int .i64 0, .int .i64 0, .slice none 0 0, .slice none 0 0, .int .i64 0, .int .i64 0]) (t := 72) ?hr ?_; (case hd => rfl); (case hg => rfl); (case hr => first | (go_simp; done) | (go_simp; rfl)); intro gb400 hg w82 hbox hb; have n0_ := Aside0.mk (below_step (HB_up HB.out) hb); have n1_ := Aside0.mk (hbox); have n2_ := Aside0.mk ((by rw [hg]; exact (below_size (HB_up HB.out)) : w.heap.size ≤ gb400)); have n3_ := Aside0.mk ((by rw [hg]; exact (below_size (HB_up HB.out)) : w.heap.size ≤ gb400)); clear HB; have HB := n0_; have BK400 := n1_; have GW400 := n2_; have GE400 := n3_; clear n0_ n1_ n2_ n3_; clear hb hbox hg; have hcz83_0 : w82.cell? ⟨gb400, 0, none⟩ = some (.int .i64 0) := (blk_cell BK400.out 0).trans rfl; have hcz83_1 : w82.cell? ⟨gb400, 1, none⟩ = some (.int .i64 0) := (blk_cell BK400.out 1).trans rfl; have hcz83_2 : w82.cell? ⟨gb400, 2, none⟩ = some (.slice none 0 0) := (blk_cell BK400.out 2).trans rfl; have hcz83_3 : w82.cell? ⟨gb400, 3, none⟩ = some (.slice none 0 0) := (blk_cell BK400.out 3).trans rfl; have hcz83_4 : w82.cell? ⟨gb400, 4, none⟩ = some (.int .i64 0) := (blk_cell BK400.out 4).trans rfl; have hcz83_5 : w82.cell? ⟨gb400, 5, none⟩ = some (.int .i64 0) := (blk_cell BK400.out 5).trans rfl; have hfz83_0 := blk_frozen BK400.out 0; have hfz83_1 := blk_frozen BK400.out 1; have hfz83_2 := blk_frozen BK400.out 2; have hfz83_3 := blk_frozen BK400.out 3; have hfz83_4 := blk_frozen BK400.out 4; have hfz83_5 := blk_frozen BK400.out 5) | ((with_reducible refine gate_dst (N := 11) rfl ?_); refine Kd.R_lit Kd.string _ 9 ?hg (N := 11) ?hd (xs := ([(⟨#[97, 108, 108]⟩ : ByteArray), (⟨#[102, 108, 97, 103]⟩ : ByteArray), (⟨#[115, 105, 110, 99, 101]⟩ : ByteArray), (⟨#[98, 101, 102, 111, 114, 101]⟩ : ByteArray), (⟨#[108, 97, 114, 103, 101, 114]⟩ : ByteArray), (⟨#[115, 117, 98, 106, 101, 99, 116]⟩ : ByteArray), (⟨#[98, 111, 100, 121]⟩ : ByteArray), (⟨#[117, 105, 100]⟩ : ByteArray), (⟨#[110, 111, 116]⟩ : ByteArray), (⟨#[97, 110, 100]⟩ : ByteArray), (⟨#[111, 114]⟩ : ByteArray)] : List ByteArray)) (inner := [.string (⟨#[97, 108, 108]⟩ : ByteArray), .string (⟨#[102, 108, 97, 103]⟩ : ByteArray), .string (⟨#[115, 105, 110, 99, 101]⟩ : ByteArray), .string (⟨#[98, 101, 102, 111, 114, 101]⟩ : ByteArray), .string (⟨#[108, 97, 114, 103, 101, 114]⟩ : ByteArray), .string (⟨#[115, 117, 98, 106, 101, 99, 116]⟩ : ByteArray), .string (⟨#[98, 111, 100, 121]⟩ : ByteArray), .string (⟨#[117, 105, 100]⟩ : ByteArray), .string (⟨#[110, 111, 116]⟩ : ByteArray), .string (⟨#[97, 110, 100]⟩ : ByteArray), .string (⟨#[111, 114]⟩ : ByteArray)]) (ok := fun _ => True) (okp := fun _ => True) ?hr ?hp (fun _ hk => hk) trivial (Below.refl _ _) (Nat.le_refl _) (by simp) ?_; (case hd => rfl); (case hg => rfl); (case hr => first | (go_simp; done) | (go_simp; rfl)); (case hp => exact (Reps.one (show Kd.M Kd.string _ _ _ (⟨#[97, 108, 108]⟩ : ByteArray) [.string (⟨#[97, 108, 108]⟩ : ByteArray)] from rfl) (Reps.one (show Kd.M Kd.string _ _ _ (⟨#[102, 108, 97, 103]⟩ : ByteArray) [.string (⟨#[102, 108, 97, 103]⟩ : ByteArray)] from rfl) (Reps.one (show Kd.M Kd.string _ _ _ (⟨#[115, 105, 110, 99, 101]⟩ : ByteArray) [.string (⟨#[115, 105, 110, 99, 101]⟩ : ByteArray)] from rfl) (Reps.one (show Kd.M Kd.string _ _ _ (⟨#[98, 101, 102, 111, 114, 101]⟩ : ByteArray) [.string (⟨#[98, 101, 102, 111, 114, 101]⟩ : ByteArray)] from rfl) (Reps.one (show Kd.M Kd.string _ _ _ (⟨#[108, 97, 114, 103, 101, 114]⟩ : ByteArray) [.string (⟨#[108, 97, 114, 103, 101, 114]⟩ : ByteArray)] from rfl) (Reps.one (show Kd.M Kd.string _ _ _ (⟨#[115, 117, 98, 106, 101, 99, 116]⟩ : ByteArray) [.string (⟨#[115, 117, 98, 106, 101, 99, 116]⟩ : ByteArray)] from rfl) (Reps.one (show Kd.M Kd.string _ _ _ (⟨#[98, 111, 100, 121]⟩ : ByteArray) [.string (⟨#[98, 111, 100, 121]⟩ : ByteArray)] from rfl) (Reps.one (show Kd.M Kd.string _ _ _ (⟨#[117, 105, 100]⟩ : ByteArray) [.string (⟨#[117, 105, 100]⟩ : ByteArray)] from rfl) (Reps.one (show Kd.M Kd.string _ _ _ (⟨#[110, 111, 116]⟩ : ByteArray) [.string (⟨#[110, 111, 116]⟩ : ByteArray)] from rfl) (Reps.one (show Kd.M Kd.string _ _ _ (⟨#[97, 110, 100]⟩ : ByteArray) [.string (⟨#[97, 110, 100]⟩ : ByteArray)] from rfl) (Reps.one (show Kd.M Kd.string _ _ _ (⟨#[111, 114]⟩ : ByteArray) [.string (⟨#[111, 114]⟩ : ByteArray)] from rfl) (Reps.none _ _))))))))))))); intro v402 w84 ho85 hb hg_ hnew_; clear hg_ hnew_; (first | rw [← Ny401.out] at ho85 | (simp only [Int.reduceToNat] at ho85; rw [← Ny401.out] at ho85)); have n0_ := Aside0.mk (Kd.R_lower ho85 (below_size (by repeat (first | (with_reducible first | exact HB.out | apply below_alloc | apply pw_below_drewN | apply below_drew1 | refine below_set ?_ GE400.out) | exact HB.out)))); have n1_ := Aside0.mk (blk_below (g := gb400) (o := .cells #[.int .i64 ((rd_T72 l0 a1).f0), .int .i64 ((rd_T72 l0 a1).f1), .slice A399_2 ((rd_T72 l0 a1).f2).length c399_2, .slice A399_3 ((rd_T72 l0 a1).f3).length c399_3, .int .i64 ((rd_T72 l0 a1).f4), .int .i64 ((rd_T72 l0 a1).f5)] 72 (0, 0)) (by (with_reducible repeat (first | refine blk_drewN ?_ _ | refine blk_drew ?_ | refine blk_alloc ?_ _)); refine blk_put (cs := #[.int .i64 ((rd_T72 l0 a1).f0), .int .i64 ((rd_T72 l0 a1).f1), .slice A399_2 ((rd_T72 l0 a1).f2).length c399_2, .slice A399_3 ((rd_T72 l0 a1).f3).length c399_3, .int .i64 ((rd_T72 l0 a1).f4), .int .i64 0]) ?_ 5 _ rfl; (with_reducible repeat (first | refine blk_drewN ?_ _ | refine blk_drew ?_ | refine blk_alloc ?_ _)); refine blk_put (cs := #[.int .i64 ((rd_T72 l0 a1).f0), .int .i64 ((rd_T72 l0 a1).f1), .slice A399_2 ((rd_T72 l0 a1).f2).length c399_2, .slice A399_3 ((rd_T72 l0 a1).f3).length c399_3, .int .i64 0, .int .i64 0]) ?_ 4 _ rfl; (with_reducible repeat (first | refine blk_drewN ?_ _ | refine blk_drew ?_ | refine blk_alloc ?_ _)); refine blk_put (cs := #[.int .i64 ((rd_T72 l0 a1).f0), .int .i64 ((rd_T72 l0 a1).f1), .slice A399_2 ((rd_T72 l0 a1).f2).length c399_2, .slice none 0 0, .int .i64 0, .int .i64 0]) ?_ 3 _ rfl; (with_reducible repeat (first | refine blk_drewN ?_ _ | refine blk_drew ?_ | refine blk_alloc ?_ _)); refine blk_put (cs := #[.int .i64 ((rd_T72 l0 a1).f0), .int .i64 ((rd_T72 l0 a1).f1), .slice none 0 0, .slice none 0 0, .int .i64 0, .int .i64 0]) ?_ 2 _ rfl; (with_reducible repeat (first | refine blk_drewN ?_ _ | refine blk_drew ?_ | refine blk_alloc ?_ _)); refine blk_put (cs := #[.int .i64 ((rd_T72 l0 a1).f0), .int .i64 0, .slice none 0 0, .slice none 0 0, .int .i64 0, .int .i64 0]) ?_ 1 _ rfl; (with_reducible repeat (first | refine blk_drewN ?_ _ | refine blk_drew ?_ | refine blk_alloc ?_ _)); refine blk_put (cs := #[.int .i64 0, .int .i64 0, .slice none 0 0, .slice none 0 0, .int .i64 0, .int .i64 0]) ?_ 0 _ rfl; (with_reducible repeat (first | refine blk_drewN ?_ _ | refine blk_drew ?_ | refine blk_alloc ?_ _)); exact BK400.out) hb); have n2_ := Aside0.mk (below_step (by repeat (first | (with_reducible first | exact HB.out | apply below_alloc | apply pw_below_drewN | apply below_drew1 | refine below_set ?_ GE400.out) | exact HB.out)) hb); clear BK400; clear HB; have HO403 := n0_; have BK400 := n1_; have HB := n2_; clear n0_ n1_ n2_; clear hb ho85; have hcz86_0 : w84.cell? ⟨gb400, 0, none⟩ = some (.int .i64 ((rd_T72 l0 a1).f0)) := (blk_cell BK400.out 0).trans rfl; have hcz86_1 : w84.cell? ⟨gb400, 1, none⟩ = some (.int .i64 ((rd_T72 l0 a1).f1)) := (blk_cell BK400.out 1).trans rfl; have hcz86_2 : w84.cell? ⟨gb400, 2, none⟩ = some (.slice A399_2 ((rd_T72 l0 a1).f2).length c399_2) := (blk_cell BK400.out 2).trans rfl; have hcz86_3 : w84.cell? ⟨gb400, 3, none⟩ = some (.slice A399_3 ((rd_T72 l0 a1).f3).length c399_3) := (blk_cell BK400.out 3).trans rfl; have hcz86_4 : w84.cell? ⟨gb400, 4, none⟩ = some (.int .i64 ((rd_T72 l0 a1).f4)) := (blk_cell BK400.out 4).trans rfl; have hcz86_5 : w84.cell? ⟨gb400, 5, none⟩ = some (.int .i64 ((rd_T72 l0 a1).f5)) := (blk_cell BK400.out 5).trans rfl; have hfz86_0 := blk_frozen BK400.out 0; have hfz86_1 := blk_frozen BK400.out 1; have hfz86_2 := blk_frozen BK400.out 2; have hfz86_3 := blk_frozen BK400.out 3; have hfz86_4 := blk_frozen BK400.out 4; have hfz86_5 := blk_frozen BK400.out 5; obtain ⟨Ao87, co87, eo87⟩ := Kd.R_slice HO403.out; subst eo87; have p404 : 0 ≤ ((ji5) : Int) := of_decide_eq_true (by first | (with_reducible assumption) | assumption); have q404 : (ji5) < (y401.length : Int) := of_decide_eq_true (by first | (with_reducible assumption) | assumption); obtain ⟨ad404, e404, hx404_0⟩ := Kd.at_string (Kd.R_reads' HO403.out).2.2 (ji5) p404 q404; cases e404; replace p404 := eq_true p404; replace q404 := eq_true q404) | ((with_reducible refine gate_callee (f := 81) rfl ?_); refine goesL_ (some 30) rfl rfl Tryd.func81 (by kernel_rfl) rfl #[.int .i64 ((rd_T72 l0 a1).f0)] rfl (by (try simp only [List.map_toArray, List.map_cons, List.map_nil]); first | done | rfl | (simp only [List.length_drop, List.length_take]; rfl)) ?_; (with_reducible refine (impl_hasNum.calls ((rd_T72 l0 a1).f0) false _ A19.out).mono ?_); rintro e w' ⟨rfl, ⟨nd, rfl⟩⟩; refine ⟨_, rfl, ?_⟩) | ((with_reducible refine gate_callee (f := 83) rfl ?_); refine goesL_ (some 40) rfl rfl Tryd.func83 (by kernel_rfl) rfl #[.int .i64 ((rd_T72 l0 a1).f0)] rfl (by (try simp only [List.map_toArray, List.map_cons, List.map_nil]); first | done | rfl | (simp only [List.length_drop, List.length_take]; rfl)) ?_; (with_reducible refine (impl_hasCodes.calls ((rd_T72 l0 a1).f0) false _ A31.out).mono ?_); rintro e w' ⟨rfl, ⟨nd, rfl⟩⟩; refine ⟨_, rfl, ?_⟩))
               go_ret
               exact ⟨by first | rfl | (simp [errW_none, errW_some] <;> rfl) | (simp only [← hji5]; first | rfl | (simp [errW_none, errW_some] <;> rfl)) | (simp [*, errW_none, errW_some] <;> rfl), by repeat (first | (with_reducible first | exact HB.out | apply below_alloc | apply pw_below_drewN | apply below_drew1 | refine below_set ?_ GE400.out) | exact HB.out)⟩
 · rw [if_neg c3] at H
   exact absurd H (by simp)

/-! ### impl_TermsText: function 21 -/
def impl_TermsText.f (k : Nat) (l0 : List (S72)) : Option (Int × ByteArray) := (impl_TermsFault.f k l0).bind fun t417 => (if t417 = 0 then ((impl_Term.f l0).bind fun t418 => ((impl_termText.f k l0 (wrap64 (t418 - 1))).bind fun t419 => (some (0, t419)))) else (some (t417, (⟨#[]⟩ : ByteArray))))
set_option maxHeartbeats 8000000 in
set_option maxRecDepth 100000 in
theorem impl_TermsText.calls (k : Nat) (A0 : Option Addr) (c0 : Nat) (l0 : List (S72)) (r1 : Int) (r2 : ByteArray) (w : World) (hr0 : Kd.C k72 w A0 l0.length l0) (hc0 : l0.length ≤ c0) (hG : GL w) (h : impl_TermsText.f k l0 = some (r1, r2)) :
 Calls Tryd.prog 21 #[.slice A0 l0.length c0] w fun e w' => e = .returned (.agg #[.int .i64 r1, .string r2]) ∧ Below w.heap.size w w' := by
 have hu25 := Tryd.underlying25
 have HR0 := Aside0.mk hr0
 have HC0 := Aside0.mk hc0
 clear hr0 hc0
 have HB := Aside0.mk (Below.refl w.heap.size w)
 have HG := Aside0.mk hG
 clear hG
 have H : ((impl_TermsFault.f k l0).bind fun t417 => (if t417 = 0 then ((impl_Term.f l0).bind fun t418 => ((impl_termText.f k l0 (wrap64 (t418 - 1))).bind fun t419 => (some (0, t419)))) else (some (t417, (⟨#[]⟩ : ByteArray))))) = some (r1, r2) := h
 clear h
 replace H := Option.bind_eq_some_iff.mp H
 obtain ⟨t417, A20, H⟩ := H
 (try dsimp only at H)
 have A2 := Aside0.mk A20
 clear A20
 by_cases c3 : t417 = 0
 · rw [if_pos c3] at H
   have c3b0 : (t417 == 0) = true := beq_iff_eq.mpr c3
   have c3b1 : (t417 != 0) = false := bne_eq_false_iff_eq.mpr c3
   clear c3
   replace H := Option.bind_eq_some_iff.mp H
   obtain ⟨t418, A40, H⟩ := H
   (try dsimp only at H)
   have A4 := Aside0.mk A40
   clear A40
   replace H := Option.bind_eq_some_iff.mp H
   obtain ⟨t419, A50, H⟩ := H
   replace H : (some (0, t419)) = some (r1, r2) := H
   have A5 := Aside0.mk A50
   clear A50
   simp only [Option.some.injEq, Prod.mk.injEq] at H
   obtain ⟨rfl, rfl⟩ := H
   go_enter Tryd.func21, Tryd.ntmps21
   go_wp2_with (first | ((with_reducible refine gate_dst (N := 2) rfl ?_); refine box_event ?hg (N := 2) ?hd (cs := #[.int .i64 0, .string (⟨#[]⟩ : ByteArray)]) (t := 25) ?hr ?_; (case hd => rfl); (case hg => rfl); (case hr => first | (go_simp; done) | (go_simp; rfl)); intro gb416 hg w6 hbox hb; have n0_ := Aside0.mk (below_step (HB_up HB.out) hb); have n1_ := Aside0.mk (hbox); have n2_ := Aside0.mk ((by rw [hg]; exact (below_size (HB_up HB.out)) : w.heap.size ≤ gb416)); have n3_ := Aside0.mk ((by rw [hg]; exact (below_size (HB_up HB.out)) : w.heap.size ≤ gb416)); clear HB; have HB := n0_; have BK416 := n1_; have GW416 := n2_; have GE416 := n3_; clear n0_ n1_ n2_ n3_; clear hb hbox hg) | ((with_reducible refine gate_callee (f := 45) rfl ?_); refine goesL_ (some 5) rfl rfl Tryd.func45 (by kernel_rfl) rfl #[.slice A0 l0.length c0] rfl (by (try simp only [List.map_toArray, List.map_cons, List.map_nil]); first | done | rfl | (simp only [List.length_drop, List.length_take]; rfl)) ?_; (with_reducible refine (impl_TermsFault.calls k _ _ l0 t417 _ ?side1 ?side2 A2.out).mono ?_); (case side1 => exact C_up (Kd.C_below HR0.out HB.out)); (case side2 => exact HC0.out); rintro e w7 ⟨rfl, hb⟩; refine ⟨_, rfl, ?_⟩; have n0_ := Aside0.mk (blk_below (g := gb416) (o := .cells #[.int .i64 0, .string (⟨#[]⟩ : ByteArray)] 25 (0, 0)) (blk_up BK416.out) hb); have n1_ := Aside0.mk (below_step (by repeat (first | (with_reducible first | exact HB.out | apply below_alloc | apply pw_below_drewN | apply below_drew1 | refine below_set ?_ GE416.out) | exact HB.out)) hb); clear BK416; clear HB; have BK416 := n0_; have HB := n1_; clear n0_ n1_; (try clear hb); (try clear hb2); (try clear hk); (try clear hi)) | ((with_reducible refine gate_callee (f := 47) rfl ?_); refine goesL_ (some 12) rfl rfl Tryd.func47 (by kernel_rfl) rfl #[.slice A0 l0.length c0] rfl (by (try simp only [List.map_toArray, List.map_cons, List.map_nil]); first | done | rfl | (simp only [List.length_drop, List.length_take]; rfl)) ?_; (with_reducible refine (impl_Term.calls _ _ l0 t418 _ ?side1 ?side2 A4.out).mono ?_); (case side1 => exact C_up (Kd.C_below HR0.out HB.out)); (case side2 => exact HC0.out); rintro e w' ⟨rfl, ⟨nd, rfl⟩⟩; refine ⟨_, rfl, ?_⟩; (try (rw [drewN_self w7]; generalize hq_ : World.drewN w7 _ = w7; have n0_ : Aside0 (w7.heap[gb416]? = some (.cells #[.int .i64 0, .string (⟨#[]⟩ : ByteArray)] 25 (0, 0))) := ⟨by rw [← hq_]; exact (blk_up BK416.out)⟩; have n1_ : Aside0 (Below w.heap.size w w7) := ⟨by rw [← hq_]; exact (by repeat (first | (with_reducible first | exact HB.out | apply below_alloc | apply pw_below_drewN | apply below_drew1 | refine below_set ?_ GE416.out) | exact HB.out))⟩; clear BK416 HB hq_; have BK416 := n0_; have HB := n1_; clear n0_ n1_))) | ((with_reducible refine gate_callee (f := 46) rfl ?_); refine goesL_ (some 14) rfl rfl Tryd.func46 (by kernel_rfl) rfl #[.slice A0 l0.length c0, .int .i64 (wrap64 (t418 - 1))] rfl (by (try simp only [List.map_toArray, List.map_cons, List.map_nil]); first | done | rfl | (simp only [List.length_drop, List.length_take]; rfl)) ?_; (with_reducible refine (impl_termText.calls k _ _ l0 (wrap64 (t418 - 1)) t419 _ ?side1 ?side2 (GL_up HG.out (by repeat (first | (with_reducible first | exact HB.out | apply below_alloc | apply pw_below_drewN | apply below_drew1 | refine below_set ?_ GE416.out) | exact HB.out))) A5.out).mono ?_); (case side1 => exact C_up (Kd.C_below HR0.out HB.out)); (case side2 => exact HC0.out); rintro e w8 ⟨rfl, hb⟩; refine ⟨_, rfl, ?_⟩; have n0_ := Aside0.mk (blk_below (g := gb416) (o := .cells #[.int .i64 0, .string (⟨#[]⟩ : ByteArray)] 25 (0, 0)) (blk_up BK416.out) hb); have n1_ := Aside0.mk (below_step (by repeat (first | (with_reducible first | exact HB.out | apply below_alloc | apply pw_below_drewN | apply below_drew1 | refine below_set ?_ GE416.out) | exact HB.out)) hb); clear BK416; clear HB; have BK416 := n0_; have HB := n1_; clear n0_ n1_; (try clear hb); (try clear hb2); (try clear hk); (try clear hi); have hcz9_0 : w8.cell? ⟨gb416, 0, none⟩ = some (.int .i64 0) := (blk_cell BK416.out 0).trans rfl; have hcz9_1 : w8.cell? ⟨gb416, 1, none⟩ = some (.string (⟨#[]⟩ : ByteArray)) := (blk_cell BK416.out 1).trans rfl; have hfz9_0 := blk_frozen BK416.out 0; have hfz9_1 := blk_frozen BK416.out 1))
   refine bodyPost_ret (results_cell_row rfl _ _ gb416 25 #[.int .i64 0, .string t419] (0, 0) _ rfl (by (with_reducible repeat (first | refine blk_drewN ?_ _ | refine blk_drew ?_ | refine blk_alloc ?_ _)); refine blk_put (cs := #[.int .i64 0, .string (⟨#[]⟩ : ByteArray)]) ?_ 1 _ rfl; (with_reducible repeat (first | refine blk_drewN ?_ _ | refine blk_drew ?_ | refine blk_alloc ?_ _)); refine blk_put (cs := #[.int .i64 0, .string (⟨#[]⟩ : ByteArray)]) ?_ 0 _ rfl; (with_reducible repeat (first | refine blk_drewN ?_ _ | refine blk_drew ?_ | refine blk_alloc ?_ _)); exact BK416.out) Tryd.underlying25 rfl (by kernel_rfl)) rfl ?_
   exact ⟨by first | rfl | (simp [errW_none, errW_some] <;> rfl) | (simp [*, errW_none, errW_some] <;> rfl), by repeat (first | (with_reducible first | exact HB.out | apply below_alloc | apply pw_below_drewN | apply below_drew1 | refine below_set ?_ GE416.out) | exact HB.out)⟩
 · rw [if_neg c3] at H
   have c3b0 : (t417 == 0) = false := beq_eq_false_iff_ne.mpr c3
   have c3b1 : (t417 != 0) = true := bne_iff_ne.mpr c3
   simp only [Option.some.injEq, Prod.mk.injEq] at H
   obtain ⟨rfl, rfl⟩ := H
   go_enter Tryd.func21, Tryd.ntmps21
   go_wp2_with (first | ((with_reducible refine gate_dst (N := 2) rfl ?_); refine box_event ?hg (N := 2) ?hd (cs := #[.int .i64 0, .string (⟨#[]⟩ : ByteArray)]) (t := 25) ?hr ?_; (case hd => rfl); (case hg => rfl); (case hr => first | (go_simp; done) | (go_simp; rfl)); intro gb416 hg w10 hbox hb; have n0_ := Aside0.mk (below_step (HB_up HB.out) hb); have n1_ := Aside0.mk (hbox); have n2_ := Aside0.mk ((by rw [hg]; exact (below_size (HB_up HB.out)) : w.heap.size ≤ gb416)); have n3_ := Aside0.mk ((by rw [hg]; exact (below_size (HB_up HB.out)) : w.heap.size ≤ gb416)); clear HB; have HB := n0_; have BK416 := n1_; have GW416 := n2_; have GE416 := n3_; clear n0_ n1_ n2_ n3_; clear hb hbox hg) | ((with_reducible refine gate_callee (f := 45) rfl ?_); refine goesL_ (some 5) rfl rfl Tryd.func45 (by kernel_rfl) rfl #[.slice A0 l0.length c0] rfl (by (try simp only [List.map_toArray, List.map_cons, List.map_nil]); first | done | rfl | (simp only [List.length_drop, List.length_take]; rfl)) ?_; (with_reducible refine (impl_TermsFault.calls k _ _ l0 t417 _ ?side1 ?side2 A2.out).mono ?_); (case side1 => exact C_up (Kd.C_below HR0.out HB.out)); (case side2 => exact HC0.out); rintro e w11 ⟨rfl, hb⟩; refine ⟨_, rfl, ?_⟩; have n0_ := Aside0.mk (blk_below (g := gb416) (o := .cells #[.int .i64 0, .string (⟨#[]⟩ : ByteArray)] 25 (0, 0)) (blk_up BK416.out) hb); have n1_ := Aside0.mk (below_step (by repeat (first | (with_reducible first | exact HB.out | apply below_alloc | apply pw_below_drewN | apply below_drew1 | refine below_set ?_ GE416.out) | exact HB.out)) hb); clear BK416; clear HB; have BK416 := n0_; have HB := n1_; clear n0_ n1_; (try clear hb); (try clear hb2); (try clear hk); (try clear hi); have hcz12_0 : w11.cell? ⟨gb416, 0, none⟩ = some (.int .i64 0) := (blk_cell BK416.out 0).trans rfl; have hcz12_1 : w11.cell? ⟨gb416, 1, none⟩ = some (.string (⟨#[]⟩ : ByteArray)) := (blk_cell BK416.out 1).trans rfl; have hfz12_0 := blk_frozen BK416.out 0; have hfz12_1 := blk_frozen BK416.out 1))
   refine bodyPost_ret (results_cell_row rfl _ _ gb416 25 #[.int .i64 t417, .string (⟨#[]⟩ : ByteArray)] (0, 0) _ rfl (by (with_reducible repeat (first | refine blk_drewN ?_ _ | refine blk_drew ?_ | refine blk_alloc ?_ _)); refine blk_put (cs := #[.int .i64 t417, .string (⟨#[]⟩ : ByteArray)]) ?_ 1 _ rfl; (with_reducible repeat (first | refine blk_drewN ?_ _ | refine blk_drew ?_ | refine blk_alloc ?_ _)); refine blk_put (cs := #[.int .i64 0, .string (⟨#[]⟩ : ByteArray)]) ?_ 0 _ rfl; (with_reducible repeat (first | refine blk_drewN ?_ _ | refine blk_drew ?_ | refine blk_alloc ?_ _)); exact BK416.out) Tryd.underlying25 rfl (by kernel_rfl)) rfl ?_
   exact ⟨by first | rfl | (simp [errW_none, errW_some] <;> rfl) | (simp [*, errW_none, errW_some] <;> rfl), by repeat (first | (with_reducible first | exact HB.out | apply below_alloc | apply pw_below_drewN | apply below_drew1 | refine below_set ?_ GE416.out) | exact HB.out)⟩

/-! ### laws_eqRange: function 36 -/
def laws_eqRange.f (a0_0 : Int) (a0_1 : Int) (a1_0 : Int) (a1_1 : Int) : Option (Bool) := if a0_0 = a1_0 then (if a0_1 = a1_1 then (some true) else (none)) else (none)
set_option maxHeartbeats 8000000 in
set_option maxRecDepth 100000 in
theorem laws_eqRange.calls (a0_0 : Int) (a0_1 : Int) (a1_0 : Int) (a1_1 : Int) (r : Bool) (w : World) (h : laws_eqRange.f a0_0 a0_1 a1_0 a1_1 = some r) :
 Calls Tryd.prog 36 #[.agg #[.int .i64 a0_0, .int .i64 a0_1], .agg #[.int .i64 a1_0, .int .i64 a1_1]] w fun e w' => e = .returned (.bool r) ∧ Below w.heap.size w w' := by
 have hu58 := Tryd.underlying58
 have HB := Aside0.mk (Below.refl w.heap.size w)
 have H : (if a0_0 = a1_0 then (if a0_1 = a1_1 then (some true) else (none)) else (none)) = some r := h
 clear h
 by_cases c3 : a0_0 = a1_0
 · rw [if_pos c3] at H
   have c3b0 : (a0_0 == a1_0) = true := beq_iff_eq.mpr c3
   have c3b1 : (a0_0 != a1_0) = false := bne_eq_false_iff_eq.mpr c3
   clear c3
   by_cases c4 : a0_1 = a1_1
   · rw [if_pos c4] at H
     have c4b0 : (a0_1 == a1_1) = true := beq_iff_eq.mpr c4
     have c4b1 : (a0_1 != a1_1) = false := bne_eq_false_iff_eq.mpr c4
     clear c4
     obtain rfl := Option.some.inj H
     go_enter Tryd.func36, Tryd.ntmps36
     go_wp2_with (first | ((with_reducible refine gate_dst (N := 2) rfl ?_); refine box_event ?hg (N := 2) ?hd (cs := #[.int .i64 a0_0, .int .i64 a0_1]) (t := 58) ?hr ?_; (case hd => rfl); (case hg => rfl); (case hr => first | (go_simp; done) | (go_simp; rfl)); intro gb420 hg w5 hbox hb; have n0_ := Aside0.mk (below_step (HB_up HB.out) hb); have n1_ := Aside0.mk (hbox); have n2_ := Aside0.mk ((by rw [hg]; exact (below_size (HB_up HB.out)) : w.heap.size ≤ gb420)); have n3_ := Aside0.mk ((by rw [hg]; exact (below_size (HB_up HB.out)) : w.heap.size ≤ gb420)); clear HB; have HB := n0_; have BK420 := n1_; have GW420 := n2_; have GE420 := n3_; clear n0_ n1_ n2_ n3_; clear hb hbox hg) | ((with_reducible refine gate_dst (N := 3) rfl ?_); refine box_event ?hg (N := 3) ?hd (cs := #[.int .i64 a1_0, .int .i64 a1_1]) (t := 58) ?hr ?_; (case hd => rfl); (case hg => rfl); (case hr => first | (go_simp; done) | (go_simp; rfl)); intro gb421 hg w6 hbox hb; have n0_ := Aside0.mk (blk_below (g := gb420) (blk_up BK420.out) hb); have n1_ := Aside0.mk (below_step (by repeat (first | (with_reducible first | exact HB.out | apply below_alloc | apply pw_below_drewN | apply below_drew1 | refine below_set ?_ GE420.out) | exact HB.out)) hb); have n2_ := Aside0.mk (hbox); have n3_ := Aside0.mk ((by rw [hg]; exact (below_size (by repeat (first | (with_reducible first | exact HB.out | apply below_alloc | apply pw_below_drewN | apply below_drew1 | refine below_set ?_ GE420.out) | exact HB.out))) : w.heap.size ≤ gb421)); have n4_ := Aside0.mk ((by rw [hg]; exact (below_size (by repeat (first | (with_reducible first | exact HB.out | apply below_alloc | apply pw_below_drewN | apply below_drew1 | refine below_set ?_ GE420.out) | exact HB.out))) : w.heap.size ≤ gb421)); have n5_ := Aside0.mk ((by rw [hg]; exact Nat.ne_of_lt (blk_lt (g := gb420) (blk_up BK420.out)) : gb420 ≠ gb421)); have n6_ := Aside0.mk ((by rw [hg]; exact Nat.ne_of_gt (blk_lt (g := gb420) (blk_up BK420.out)) : gb421 ≠ gb420)); clear BK420; clear HB; have BK420 := n0_; have HB := n1_; have BK421 := n2_; have GW421 := n3_; have GE421 := n4_; have NB420_421 := n5_; have NB421_420 := n6_; clear n0_ n1_ n2_ n3_ n4_ n5_ n6_; clear hb hbox hg; have hnb7 := NB420_421.out; have hnc7 := NB421_420.out; have hcz8_0 : w6.cell? ⟨gb420, 0, none⟩ = some (.int .i64 a0_0) := (blk_cell BK420.out 0).trans rfl; have hcz8_1 : w6.cell? ⟨gb420, 1, none⟩ = some (.int .i64 a0_1) := (blk_cell BK420.out 1).trans rfl; have hfz8_0 := blk_frozen BK420.out 0; have hfz8_1 := blk_frozen BK420.out 1; have hcz9_0 : w6.cell? ⟨gb421, 0, none⟩ = some (.int .i64 a1_0) := (blk_cell BK421.out 0).trans rfl; have hcz9_1 : w6.cell? ⟨gb421, 1, none⟩ = some (.int .i64 a1_1) := (blk_cell BK421.out 1).trans rfl; have hfz9_0 := blk_frozen BK421.out 0; have hfz9_1 := blk_frozen BK421.out 1))
     go_ret
     exact ⟨by first | rfl | (simp [errW_none, errW_some] <;> rfl) | (simp [*, errW_none, errW_some] <;> rfl), by repeat (first | (with_reducible first | exact HB.out | apply below_alloc | apply pw_below_drewN | apply below_drew1 | refine below_set ?_ GE420.out | refine below_set ?_ GE421.out) | exact HB.out)⟩
   · rw [if_neg c4] at H
     exact absurd H (by simp)
 · rw [if_neg c3] at H
   exact absurd H (by simp)

/-! ### laws_eqRangeS: function 12 -/
def laws_eqRangeS.l0 : Nat → List (S58) → List (S58) → Int → Option (Bool)
 | 0, _, _, _ => none
 | k + 1, x0, x1, x5 => if x5 < (x0.length : Int) then (if 0 ≤ x5 then (if x5 < (x1.length : Int) then ((laws_eqRange.f ((rd_T58 x0 x5).f0) ((rd_T58 x0 x5).f1) ((rd_T58 x1 x5).f0) ((rd_T58 x1 x5).f1)).bind fun t424 => (if t424 = true then (laws_eqRangeS.l0 k x0 x1 (wrap64 (x5 + 1))) else (none))) else (none)) else (none)) else (some true)
def laws_eqRangeS.f (k : Nat) (l0 : List (S58)) (l1 : List (S58)) : Option (Bool) := if (l0.length : Int) = (l1.length : Int) then (laws_eqRangeS.l0 k l0 l1 0) else (none)
def laws_eqRangeS.T6 : Bool × List (List Nat × List Nat) := (true, [([], []), ([], []), ([0, 1], [0, 1]), ([2], [2]), ([], []), ([], []), ([4, 5], [4, 5]), ([6], [6]), ([3, 7], [3, 7]), ([8], [8])])
def laws_eqRangeS.B6 : List Nat := [0, 0, 3, 7, 0, 0, 48, 112, 255, 511]
theorem laws_eqRangeS.tab6 : rtab .any (opsOf Tryd.f12 6) = laws_eqRangeS.T6 := by kernel_rfl
theorem laws_eqRangeS.bits6 : waitsOk laws_eqRangeS.T6.2 laws_eqRangeS.B6 = true := by kernel_rfl
set_option maxHeartbeats 8000000 in
set_option maxRecDepth 100000 in
theorem laws_eqRangeS.calls (k : Nat) (A0 : Option Addr) (c0 : Nat) (l0 : List (S58)) (A1 : Option Addr) (c1 : Nat) (l1 : List (S58)) (r : Bool) (w : World) (hr0 : Kd.C k58 w A0 l0.length l0) (hc0 : l0.length ≤ c0) (hr1 : Kd.C k58 w A1 l1.length l1) (hc1 : l1.length ≤ c1) (h : laws_eqRangeS.f k l0 l1 = some r) :
 Calls Tryd.prog 12 #[.slice A0 l0.length c0, .slice A1 l1.length c1] w fun e w' => e = .returned (.bool r) ∧ Below w.heap.size w w' := by
 have hu58 := Tryd.underlying58
 have HR0 := Aside0.mk hr0
 have HC0 := Aside0.mk hc0
 clear hr0 hc0
 have HR1 := Aside0.mk hr1
 have HC1 := Aside0.mk hc1
 clear hr1 hc1
 have HB := Aside0.mk (Below.refl w.heap.size w)
 have H : (if (l0.length : Int) = (l1.length : Int) then (laws_eqRangeS.l0 k l0 l1 0) else (none)) = some r := h
 clear h
 by_cases c3 : (l0.length : Int) = (l1.length : Int)
 · rw [if_pos c3] at H
   have c3b0 : ((l0.length : Int) == (l1.length : Int)) = true := beq_iff_eq.mpr c3
   have c3b1 : ((l0.length : Int) != (l1.length : Int)) = false := bne_eq_false_iff_eq.mpr c3
   have c3b2 : (l0.length == l1.length) = true := by first | simpa using c3 | (simp at c3 ⊢; omega)
   clear c3
   have H' := Aside0.mk H
   clear H
   go_enter Tryd.func12, Tryd.ntmps12
   go_wp2
   go_loopg [5] k (fun kq v5 w' => ∃ (x5_1 : Int), v5 = .int .i64 x5_1 ∧ Aside0 (laws_eqRangeS.l0 kq l0 l1 x5_1 = some r) ∧ Aside0 (kq ≤ k) ∧ Aside0 (Below w.heap.size w w'))
   case atStart => exact ⟨(0), (by first | rfl | (simp; done) | (simp [*]; done) | (simp; generalize ByteArray.toList _ = zq_; cases zq_ <;> rfl)), H', ⟨Nat.le_refl _⟩, ⟨by repeat (first | (with_reducible first | exact HB.out | apply below_alloc | apply pw_below_drewN | apply below_drew1) | exact HB.out)⟩⟩
   case round =>
    clear H'
    try clear c1
    try clear c3
    try clear c3b0
    try clear c3b1
    try clear c3b2
    obtain ⟨x5_1, rfl, HA, HK1, HB⟩ := hrel
    cases gk with
    | zero => exact absurd HA.out (by simp [laws_eqRangeS.l0])
    | succ k1 =>
      have H := HA.out
      clear HA
      simp only [laws_eqRangeS.l0] at H
      by_cases c4 : x5_1 < (l0.length : Int)
      · rw [if_pos c4] at H
        have c4b0 : decide (x5_1 < (l0.length : Int)) = true := decide_eq_true c4
        clear c4
        by_cases c5 : 0 ≤ x5_1
        case neg => rw [if_neg c5] at H; exact absurd H (by simp)
        rw [if_pos c5] at H
        have c5b0 : decide (0 ≤ x5_1) = true := decide_eq_true c5
        clear c5
        by_cases c6 : x5_1 < (l1.length : Int)
        case neg => rw [if_neg c6] at H; exact absurd H (by simp)
        rw [if_pos c6] at H
        have c6b0 : decide (x5_1 < (l1.length : Int)) = true := decide_eq_true c6
        clear c6
        replace H := Option.bind_eq_some_iff.mp H
        obtain ⟨t424, A70, H⟩ := H
        (try dsimp only at H)
        have A7 := Aside0.mk A70
        clear A70
        by_cases c8 : t424 = true
        · subst c8
          (try rw [if_pos rfl] at H)
          have H' := Aside0.mk H
          clear H
          try go_wp2
          have n0_ := Aside0.mk (below_drew1 HB.out)
          clear HB
          have HB := n0_
          clear n0_
          have p422 : 0 ≤ (x5_1 : Int) := of_decide_eq_true (by first | (with_reducible assumption) | assumption)
          have q422 : x5_1 < (l0.length : Int) := of_decide_eq_true (by first | (with_reducible assumption) | assumption)
          obtain ⟨ad422, e422, hx422_0, hx422_1⟩ := at_T58 HR0.out x5_1 p422 q422
          have hw422_1 := hx422_1
          have hw422_0 := hx422_0
          cases e422
          replace hx422_0 := ck_ HB.out hx422_0
          replace hx422_1 := ck_ HB.out hx422_1
          replace p422 := eq_true p422
          replace q422 := eq_true q422
          have p423 : 0 ≤ (x5_1 : Int) := of_decide_eq_true (by first | (with_reducible assumption) | assumption)
          have q423 : x5_1 < (l1.length : Int) := of_decide_eq_true (by first | (with_reducible assumption) | assumption)
          obtain ⟨ad423, e423, hx423_0, hx423_1⟩ := at_T58 HR1.out x5_1 p423 q423
          have hw423_1 := hx423_1
          have hw423_0 := hx423_0
          cases e423
          replace hx423_0 := ck_ HB.out hx423_0
          replace hx423_1 := ck_ HB.out hx423_1
          replace p423 := eq_true p423
          replace q423 := eq_true q423
          refine start_ (n := 10) (S := fun w' => w'.cell? (ad422.add ((x5_1).toNat * 2)) = some (.int .i64 ((rd_T58 l0 x5_1).f0)) ∧ w'.cell? ⟨(ad422.add ((x5_1).toNat * 2)).block, (ad422.add ((x5_1).toNat * 2)).off + 1, none⟩ = some (.int .i64 ((rd_T58 l0 x5_1).f1)) ∧ w'.cell? (ad423.add ((x5_1).toNat * 2)) = some (.int .i64 ((rd_T58 l1 x5_1).f0)) ∧ w'.cell? ⟨(ad423.add ((x5_1).toNat * 2)).block, (ad423.add ((x5_1).toNat * 2)).off + 1, none⟩ = some (.int .i64 ((rd_T58 l1 x5_1).f1))) (ds := []) #[false, false, false, false, false, false, false, false, false, false] (by kernel_rfl) rfl rfl ⟨(ck_ HB.out hw422_0), (ck_ HB.out hw422_1), (ck_ HB.out hw423_0), (ck_ HB.out hw423_1)⟩ (fun hHeld => ?_); refine with_tabW laws_eqRangeS.tab6 laws_eqRangeS.bits6 (fun HT_ HW_ => ?_)
          generalize wr.drew = w9 at HB hx422_0 hx422_1 hx423_0 hx423_1 hHeld ⊢
          refine pu_ (i := 0) (N := some 17) (v := ?_) (a' := ?_) rfl rfl (any_of HT_.out (by kernel_rfl)) (fun _ _ _ h => h) (Or.inl ⟨by rfl, ?_⟩) ?_ ?_; rotate_left
          · intro w'; go_simp; all_goals (first | with_reducible rfl | (simp [Instr.field, go_sem]; rfl))
          rotate_left
          · simp only [Act.put, List.setIfInBounds_toArray, List.set_cons_zero, List.set_cons_succ, i64_w, i32_w]; rfl
          refine pu_ (i := 1) (N := some 18) (v := ?_) (a' := ?_) rfl rfl (any_of HT_.out (by kernel_rfl)) (fun _ _ _ h => h) (Or.inl ⟨by rfl, ?_⟩) ?_ ?_; rotate_left
          · intro w'; go_simp; all_goals (first | with_reducible rfl | (simp [Instr.field, go_sem]; rfl))
          rotate_left
          · simp only [Act.put, List.setIfInBounds_toArray, List.set_cons_zero, List.set_cons_succ, i64_w, i32_w]; rfl
          refine pu_ (i := 2) (N := some 19) (v := ?_) (a' := ?_) rfl rfl (any_of HT_.out (by kernel_rfl)) (fun _ _ _ h => h) (Or.inl ⟨by rfl, ?_⟩) ?_ ?_; rotate_left
          · intro w'; go_simp; all_goals (first | with_reducible rfl | (simp [Instr.field, go_sem]; rfl))
          rotate_left
          · simp only [Act.put, List.setIfInBounds_toArray, List.set_cons_zero, List.set_cons_succ, i64_w, i32_w]; rfl
          refine pu_ (i := 4) (N := some 21) (v := ?_) (a' := ?_) rfl rfl (any_of HT_.out (by kernel_rfl)) (fun _ _ _ h => h) (Or.inl ⟨by rfl, ?_⟩) ?_ ?_; rotate_left
          · intro w'; go_simp; all_goals (first | with_reducible rfl | (simp [Instr.field, go_sem]; rfl))
          rotate_left
          · simp only [Act.put, List.setIfInBounds_toArray, List.set_cons_zero, List.set_cons_succ, i64_w, i32_w]; rfl
          refine pu_ (i := 5) (N := some 22) (v := ?_) (a' := ?_) rfl rfl (any_of HT_.out (by kernel_rfl)) (fun _ _ _ h => h) (Or.inl ⟨by rfl, ?_⟩) ?_ ?_; rotate_left
          · intro w'; go_simp; all_goals (first | with_reducible rfl | (simp [Instr.field, go_sem]; rfl))
          rotate_left
          · simp only [Act.put, List.setIfInBounds_toArray, List.set_cons_zero, List.set_cons_succ, i64_w, i32_w]; rfl
          refine pu_ (i := 6) (N := some 23) (v := ?_) (a' := ?_) rfl rfl (any_of HT_.out (by kernel_rfl)) (fun _ _ _ h => h) (Or.inl ⟨by rfl, ?_⟩) ?_ ?_; rotate_left
          · intro w'; go_simp; all_goals (first | with_reducible rfl | (simp [Instr.field, go_sem]; rfl))
          rotate_left
          · simp only [Act.put, List.setIfInBounds_toArray, List.set_cons_zero, List.set_cons_succ, i64_w, i32_w]; rfl
          refine ta_ (i := 3) (N := some 20) (v := ?_) (a' := ?_) rfl rfl (take_ofW HT_.out HW_.out (by kernel_rfl)) (fun _ _ _ h => h) (Or.inl ⟨by rfl, ?_⟩) hHeld ?_ ?_; rotate_left
          · rintro w' ⟨s0, s1, s2, s3⟩; go_simp; all_goals (first | with_reducible rfl | (simp [Instr.field, go_sem]; rfl))
          rotate_left
          · simp only [Act.put, List.setIfInBounds_toArray, List.set_cons_zero, List.set_cons_succ, i64_w, i32_w]; rfl
          refine ta_ (i := 7) (N := some 24) (v := ?_) (a' := ?_) rfl rfl (take_ofW HT_.out HW_.out (by kernel_rfl)) (fun _ _ _ h => h) (Or.inl ⟨by rfl, ?_⟩) hHeld ?_ ?_; rotate_left
          · rintro w' ⟨s0, s1, s2, s3⟩; go_simp; all_goals (first | with_reducible rfl | (simp [Instr.field, go_sem]; rfl))
          rotate_left
          · simp only [Act.put, List.setIfInBounds_toArray, List.set_cons_zero, List.set_cons_succ, i64_w, i32_w]; rfl
          refine on_ (i := 8) (N := some 25) rfl rfl (one_of HT_.out (by kernel_rfl)) (by decide) (fun K hK => ?_)
          refine goes_ Tryd.func36 (by kernel_rfl) rfl #[.agg #[.int .i64 ((rd_T58 l0 x5_1).f0), .int .i64 ((rd_T58 l0 x5_1).f1)], .agg #[.int .i64 ((rd_T58 l1 x5_1).f0), .int .i64 ((rd_T58 l1 x5_1).f1)]] (by rfl) rfl rfl (by (try simp only [List.map_toArray, List.map_cons, List.map_nil]); first | done | rfl | (simp only [List.length_drop, List.length_take]; rfl)) ?_
          with_reducible refine (laws_eqRange.calls ((rd_T58 l0 x5_1).f0) ((rd_T58 l0 x5_1).f1) ((rd_T58 l1 x5_1).f0) ((rd_T58 l1 x5_1).f1) true _ A7.out).mono ?_
          rintro e w10 ⟨rfl, hb⟩
          refine ⟨_, rfl, ?_⟩
          have n0_ := Aside0.mk (below_step (HB_up HB.out) hb)
          clear HB
          have HB := n0_
          clear n0_
          (try clear hb)
          (try clear hb2)
          (try clear hk)
          (try clear hi)
          refine hK.out _ _ ⟨(ck_ HB.out hw422_0), (ck_ HB.out hw422_1), (ck_ HB.out hw423_0), (ck_ HB.out hw423_1)⟩ (fun hHeld => ?_)
          clear hK K
          refine norm_ (a' := ?_) ?_ ?_
          rotate_left
          · show Act.put _ (some 25) _ = _
            simp only [Act.put, List.setIfInBounds_toArray, List.set_cons_zero, List.set_cons_succ, i64_w, i32_w]
            rfl
          refine pu_ (i := 9) (N := some 26) (v := ?_) (a' := ?_) rfl rfl (any_of HT_.out (by kernel_rfl)) (fun _ _ _ h => h) (Or.inl ⟨by rfl, ?_⟩) ?_ ?_; rotate_left
          · intro w'; go_simp; all_goals (first | with_reducible rfl | (simp [Instr.field, go_sem]; rfl))
          rotate_left
          · simp only [Act.put, List.setIfInBounds_toArray, List.set_cons_zero, List.set_cons_succ, i64_w, i32_w]; rfl
          refine done_ (done_of HT_.out (by kernel_rfl)) ?_
          try go_wp2
          go_roundg k1
          case measure => have := HK1.out; omega
          case rel => exact ⟨(wrap64 (x5_1 + 1)), (by first | rfl | (simp; done) | (simp [*]; done) | (simp; generalize ByteArray.toList _ = zq_; cases zq_ <;> rfl)), H', ⟨by have := HK1.out; omega⟩, ⟨by repeat (first | (with_reducible first | exact HB.out | apply below_alloc | apply pw_below_drewN | apply below_drew1) | exact HB.out)⟩⟩
        · replace c8 := Bool.eq_false_iff.mpr c8
          subst c8
          (try rw [if_neg (show ¬ (false = true) by decide)] at H)
          exact absurd H (by simp)
      · rw [if_neg c4] at H
        have c4b0 : decide (x5_1 < (l0.length : Int)) = false := decide_eq_false c4
        clear c4
        obtain rfl := Option.some.inj H
        go_wp2
        go_ret
        exact ⟨by first | rfl | (simp [errW_none, errW_some] <;> rfl) | (simp [*, errW_none, errW_some] <;> rfl), by repeat (first | (with_reducible first | exact HB.out | apply below_alloc | apply pw_below_drewN | apply below_drew1) | exact HB.out)⟩
 · rw [if_neg c3] at H
   exact absurd H (by simp)

/-! ### laws_eqInt64S: function 85 -/
def laws_eqInt64S.l0 : Nat → List Int → List Int → Int → Option (Bool)
 | 0, _, _, _ => none
 | k + 1, x0, x1, x5 => if x5 < (x0.length : Int) then (if 0 ≤ x5 then (if x5 < (x1.length : Int) then (if (rd x0 x5) = (rd x1 x5) then (laws_eqInt64S.l0 k x0 x1 (wrap64 (x5 + 1))) else (none)) else (none)) else (none)) else (some true)
def laws_eqInt64S.f (k : Nat) (l0 : List Int) (l1 : List Int) : Option (Bool) := if (l0.length : Int) = (l1.length : Int) then (laws_eqInt64S.l0 k l0 l1 0) else (none)
set_option maxHeartbeats 8000000 in
set_option maxRecDepth 100000 in
theorem laws_eqInt64S.calls (k : Nat) (A0 : Option Addr) (c0 : Nat) (l0 : List Int) (A1 : Option Addr) (c1 : Nat) (l1 : List Int) (r : Bool) (w : World) (hr0 : Kd.C (Kd.int .i64) w A0 l0.length l0) (hc0 : l0.length ≤ c0) (hr1 : Kd.C (Kd.int .i64) w A1 l1.length l1) (hc1 : l1.length ≤ c1) (h : laws_eqInt64S.f k l0 l1 = some r) :
 Calls Tryd.prog 85 #[.slice A0 l0.length c0, .slice A1 l1.length c1] w fun e w' => e = .returned (.bool r) ∧ Drawn0 w w' := by
 have HR0 := Aside0.mk hr0
 have HC0 := Aside0.mk hc0
 clear hr0 hc0
 have HR1 := Aside0.mk hr1
 have HC1 := Aside0.mk hc1
 clear hr1 hc1
 have H : (if (l0.length : Int) = (l1.length : Int) then (laws_eqInt64S.l0 k l0 l1 0) else (none)) = some r := h
 clear h
 by_cases c3 : (l0.length : Int) = (l1.length : Int)
 · rw [if_pos c3] at H
   have c3b0 : ((l0.length : Int) == (l1.length : Int)) = true := beq_iff_eq.mpr c3
   have c3b1 : ((l0.length : Int) != (l1.length : Int)) = false := bne_eq_false_iff_eq.mpr c3
   have c3b2 : (l0.length == l1.length) = true := by first | simpa using c3 | (simp at c3 ⊢; omega)
   clear c3
   have H' := Aside0.mk H
   clear H
   go_enter Tryd.func85, Tryd.ntmps85
   go_wp2
   repeat (go_quiet (fail); try go_wp2)
   go_loopg [5] k (fun kq v5 w' => ∃ (x5_1 : Int), v5 = .int .i64 x5_1 ∧ Aside0 (laws_eqInt64S.l0 kq l0 l1 x5_1 = some r) ∧ Aside0 (kq ≤ k) ∧ Drawn0 w w')
   case atStart => exact ⟨(0), (by first | rfl | (simp; done) | (simp [*]; done) | (simp; generalize ByteArray.toList _ = zq_; cases zq_ <;> rfl)), H', ⟨Nat.le_refl _⟩, by repeat (first | exact Drawn0.refl _ | apply Drawn0.step)⟩
   case round =>
    clear H'
    try clear c1
    try clear p2
    try clear c3
    try clear c3b0
    try clear c3b1
    try clear c3b2
    obtain ⟨x5_1, rfl, HA, HK1, ⟨m1, rfl⟩⟩ := hrel
    cases gk with
    | zero => exact absurd HA.out (by simp [laws_eqInt64S.l0])
    | succ k1 =>
      have H := HA.out
      clear HA
      simp only [laws_eqInt64S.l0] at H
      by_cases c4 : x5_1 < (l0.length : Int)
      · rw [if_pos c4] at H
        have c4b0 : decide (x5_1 < (l0.length : Int)) = true := decide_eq_true c4
        clear c4
        by_cases c5 : 0 ≤ x5_1
        · rw [if_pos c5] at H
          have c5b0 : decide (0 ≤ x5_1) = true := decide_eq_true c5
          clear c5
          by_cases c6 : x5_1 < (l1.length : Int)
          · rw [if_pos c6] at H
            have c6b0 : decide (x5_1 < (l1.length : Int)) = true := decide_eq_true c6
            clear c6
            by_cases c7 : (rd l0 x5_1) = (rd l1 x5_1)
            · rw [if_pos c7] at H
              have c7b0 : ((rd l0 x5_1) == (rd l1 x5_1)) = true := beq_iff_eq.mpr c7
              have c7b1 : ((rd l0 x5_1) != (rd l1 x5_1)) = false := bne_eq_false_iff_eq.mpr c7
              clear c7
              have H' := Aside0.mk H
              clear H
              have p425 : 0 ≤ (x5_1 : Int) := of_decide_eq_true (by first | (with_reducible assumption) | assumption)
              have q425 : x5_1 < (l0.length : Int) := of_decide_eq_true (by first | (with_reducible assumption) | assumption)
              obtain ⟨ad425, e425, hx425_0⟩ := Kd.at_int HR0.out x5_1 p425 q425
              cases e425
              replace p425 := eq_true p425
              replace q425 := eq_true q425
              have p426 : 0 ≤ (x5_1 : Int) := of_decide_eq_true (by first | (with_reducible assumption) | assumption)
              have q426 : x5_1 < (l1.length : Int) := of_decide_eq_true (by first | (with_reducible assumption) | assumption)
              obtain ⟨ad426, e426, hx426_0⟩ := Kd.at_int HR1.out x5_1 p426 q426
              cases e426
              replace p426 := eq_true p426
              replace q426 := eq_true q426
              go_wp2
              repeat (go_quiet (fail); try go_wp2)
              go_roundg k1
              case measure => have := HK1.out; omega
              case rel => exact ⟨(wrap64 (x5_1 + 1)), (by first | rfl | (simp; done) | (simp [*]; done) | (simp; generalize ByteArray.toList _ = zq_; cases zq_ <;> rfl)), H', ⟨by have := HK1.out; omega⟩, by repeat (first | exact Drawn0.refl _ | apply Drawn0.step)⟩
            · rw [if_neg c7] at H
              exact absurd H (by simp)
          · rw [if_neg c6] at H
            exact absurd H (by simp)
        · rw [if_neg c5] at H
          exact absurd H (by simp)
      · rw [if_neg c4] at H
        have c4b0 : decide (x5_1 < (l0.length : Int)) = false := decide_eq_false c4
        clear c4
        obtain rfl := Option.some.inj H
        go_wp2
        repeat (go_quiet (fail); try go_wp2)
        go_ret
        exact ⟨by first | rfl | (simp; done) | (simp [*]; done) | (simp; generalize ByteArray.toList _ = zq_; cases zq_ <;> rfl), by repeat (first | exact Drawn0.refl _ | apply Drawn0.step)⟩
 · rw [if_neg c3] at H
   exact absurd H (by simp)

/-! ### laws_eqTerm: function 48 -/
def laws_eqTerm.f (k : Nat) (a0_0 : Int) (a0_1 : Int) (l0_2 : List Int) (l0_3 : List (S58)) (a0_4 : Int) (a0_5 : Int) (a1_0 : Int) (a1_1 : Int) (l1_2 : List Int) (l1_3 : List (S58)) (a1_4 : Int) (a1_5 : Int) : Option (Bool) := if a0_0 = a1_0 then (if a0_1 = a1_1 then ((laws_eqInt64S.f k l0_2 l1_2).bind fun t429 => (if t429 = true then ((laws_eqRangeS.f k l0_3 l1_3).bind fun t430 => (if t430 = true then (if a0_4 = a1_4 then (if a0_5 = a1_5 then (some true) else (none)) else (none)) else (none))) else (none))) else (none)) else (none)
set_option maxHeartbeats 8000000 in
set_option maxRecDepth 100000 in
theorem laws_eqTerm.calls (k : Nat) (a0_0 : Int) (a0_1 : Int) (A0_2 : Option Addr) (c0_2 : Nat) (l0_2 : List Int) (A0_3 : Option Addr) (c0_3 : Nat) (l0_3 : List (S58)) (a0_4 : Int) (a0_5 : Int) (a1_0 : Int) (a1_1 : Int) (A1_2 : Option Addr) (c1_2 : Nat) (l1_2 : List Int) (A1_3 : Option Addr) (c1_3 : Nat) (l1_3 : List (S58)) (a1_4 : Int) (a1_5 : Int) (r : Bool) (w : World) (hr0_2 : Kd.C (Kd.int .i64) w A0_2 l0_2.length l0_2) (hc0_2 : l0_2.length ≤ c0_2) (hr0_3 : Kd.C k58 w A0_3 l0_3.length l0_3) (hc0_3 : l0_3.length ≤ c0_3) (hr1_2 : Kd.C (Kd.int .i64) w A1_2 l1_2.length l1_2) (hc1_2 : l1_2.length ≤ c1_2) (hr1_3 : Kd.C k58 w A1_3 l1_3.length l1_3) (hc1_3 : l1_3.length ≤ c1_3) (h : laws_eqTerm.f k a0_0 a0_1 l0_2 l0_3 a0_4 a0_5 a1_0 a1_1 l1_2 l1_3 a1_4 a1_5 = some r) :
 Calls Tryd.prog 48 #[.agg #[.int .i64 a0_0, .int .i64 a0_1, .slice A0_2 l0_2.length c0_2, .slice A0_3 l0_3.length c0_3, .int .i64 a0_4, .int .i64 a0_5], .agg #[.int .i64 a1_0, .int .i64 a1_1, .slice A1_2 l1_2.length c1_2, .slice A1_3 l1_3.length c1_3, .int .i64 a1_4, .int .i64 a1_5]] w fun e w' => e = .returned (.bool r) ∧ Below w.heap.size w w' := by
 have hu72 := Tryd.underlying72
 have HR0_2 := Aside0.mk hr0_2
 have HC0_2 := Aside0.mk hc0_2
 clear hr0_2 hc0_2
 have HR0_3 := Aside0.mk hr0_3
 have HC0_3 := Aside0.mk hc0_3
 clear hr0_3 hc0_3
 have HR1_2 := Aside0.mk hr1_2
 have HC1_2 := Aside0.mk hc1_2
 clear hr1_2 hc1_2
 have HR1_3 := Aside0.mk hr1_3
 have HC1_3 := Aside0.mk hc1_3
 clear hr1_3 hc1_3
 have HB := Aside0.mk (Below.refl w.heap.size w)
 have H : (if a0_0 = a1_0 then (if a0_1 = a1_1 then ((laws_eqInt64S.f k l0_2 l1_2).bind fun t429 => (if t429 = true then ((laws_eqRangeS.f k l0_3 l1_3).bind fun t430 => (if t430 = true then (if a0_4 = a1_4 then (if a0_5 = a1_5 then (some true) else (none)) else (none)) else (none))) else (none))) else (none)) else (none)) = some r := h
 clear h
 by_cases c3 : a0_0 = a1_0
 · rw [if_pos c3] at H
   have c3b0 : (a0_0 == a1_0) = true := beq_iff_eq.mpr c3
   have c3b1 : (a0_0 != a1_0) = false := bne_eq_false_iff_eq.mpr c3
   clear c3
   by_cases c4 : a0_1 = a1_1
   case neg => rw [if_neg c4] at H; exact absurd H (by simp)
   rw [if_pos c4] at H
   have c4b0 : (a0_1 == a1_1) = true := beq_iff_eq.mpr c4
   have c4b1 : (a0_1 != a1_1) = false := bne_eq_false_iff_eq.mpr c4
   clear c4
   replace H := Option.bind_eq_some_iff.mp H
   obtain ⟨t429, A50, H⟩ := H
   (try dsimp only at H)
   have A5 := Aside0.mk A50
   clear A50
   by_cases c6 : t429 = true
   · subst c6
     (try rw [if_pos rfl] at H)
     replace H := Option.bind_eq_some_iff.mp H
     obtain ⟨t430, A70, H⟩ := H
     (try dsimp only at H)
     have A7 := Aside0.mk A70
     clear A70
     by_cases c8 : t430 = true
     · subst c8
       (try rw [if_pos rfl] at H)
       by_cases c9 : a0_4 = a1_4
       case neg => rw [if_neg c9] at H; exact absurd H (by simp)
       rw [if_pos c9] at H
       have c9b0 : (a0_4 == a1_4) = true := beq_iff_eq.mpr c9
       have c9b1 : (a0_4 != a1_4) = false := bne_eq_false_iff_eq.mpr c9
       clear c9
       by_cases c10 : a0_5 = a1_5
       case neg => rw [if_neg c10] at H; exact absurd H (by simp)
       rw [if_pos c10] at H
       have c10b0 : (a0_5 == a1_5) = true := beq_iff_eq.mpr c10
       have c10b1 : (a0_5 != a1_5) = false := bne_eq_false_iff_eq.mpr c10
       clear c10
       obtain rfl := Option.some.inj H
       go_enter Tryd.func48, Tryd.ntmps48
       go_wp2_with (first | ((with_reducible refine gate_dst (N := 2) rfl ?_); refine box_event ?hg (N := 2) ?hd (cs := #[.int .i64 a0_0, .int .i64 a0_1, .slice A0_2 l0_2.length c0_2, .slice A0_3 l0_3.length c0_3, .int .i64 a0_4, .int .i64 a0_5]) (t := 72) ?hr ?_; (case hd => rfl); (case hg => rfl); (case hr => first | (go_simp; done) | (go_simp; rfl)); intro gb427 hg w11 hbox hb; have n0_ := Aside0.mk (below_step (HB_up HB.out) hb); have n1_ := Aside0.mk (hbox); have n2_ := Aside0.mk ((by rw [hg]; exact (below_size (HB_up HB.out)) : w.heap.size ≤ gb427)); have n3_ := Aside0.mk ((by rw [hg]; exact (below_size (HB_up HB.out)) : w.heap.size ≤ gb427)); clear HB; have HB := n0_; have BK427 := n1_; have GW427 := n2_; have GE427 := n3_; clear n0_ n1_ n2_ n3_; clear hb hbox hg) | ((with_reducible refine gate_dst (N := 3) rfl ?_); refine box_event ?hg (N := 3) ?hd (cs := #[.int .i64 a1_0, .int .i64 a1_1, .slice A1_2 l1_2.length c1_2, .slice A1_3 l1_3.length c1_3, .int .i64 a1_4, .int .i64 a1_5]) (t := 72) ?hr ?_; (case hd => rfl); (case hg => rfl); (case hr => first | (go_simp; done) | (go_simp; rfl)); intro gb428 hg w12 hbox hb; have n0_ := Aside0.mk (blk_below (g := gb427) (blk_up BK427.out) hb); have n1_ := Aside0.mk (below_step (by repeat (first | (with_reducible first | exact HB.out | apply below_alloc | apply pw_below_drewN | apply below_drew1 | refine below_set ?_ GE427.out) | exact HB.out)) hb); have n2_ := Aside0.mk (hbox); have n3_ := Aside0.mk ((by rw [hg]; exact (below_size (by repeat (first | (with_reducible first | exact HB.out | apply below_alloc | apply pw_below_drewN | apply below_drew1 | refine below_set ?_ GE427.out) | exact HB.out))) : w.heap.size ≤ gb428)); have n4_ := Aside0.mk ((by rw [hg]; exact (below_size (by repeat (first | (with_reducible first | exact HB.out | apply below_alloc | apply pw_below_drewN | apply below_drew1 | refine below_set ?_ GE427.out) | exact HB.out))) : w.heap.size ≤ gb428)); have n5_ := Aside0.mk ((by rw [hg]; exact Nat.ne_of_lt (blk_lt (g := gb427) (blk_up BK427.out)) : gb427 ≠ gb428)); have n6_ := Aside0.mk ((by rw [hg]; exact Nat.ne_of_gt (blk_lt (g := gb427) (blk_up BK427.out)) : gb428 ≠ gb427)); clear BK427; clear HB; have BK427 := n0_; have HB := n1_; have BK428 := n2_; have GW428 := n3_; have GE428 := n4_; have NB427_428 := n5_; have NB428_427 := n6_; clear n0_ n1_ n2_ n3_ n4_ n5_ n6_; clear hb hbox hg; have hnb13 := NB427_428.out; have hnc13 := NB428_427.out; have hcz14_0 : w12.cell? ⟨gb427, 0, none⟩ = some (.int .i64 a0_0) := (blk_cell BK427.out 0).trans rfl; have hcz14_1 : w12.cell? ⟨gb427, 1, none⟩ = some (.int .i64 a0_1) := (blk_cell BK427.out 1).trans rfl; have hcz14_2 : w12.cell? ⟨gb427, 2, none⟩ = some (.slice A0_2 l0_2.length c0_2) := (blk_cell BK427.out 2).trans rfl; have hcz14_3 : w12.cell? ⟨gb427, 3, none⟩ = some (.slice A0_3 l0_3.length c0_3) := (blk_cell BK427.out 3).trans rfl; have hcz14_4 : w12.cell? ⟨gb427, 4, none⟩ = some (.int .i64 a0_4) := (blk_cell BK427.out 4).trans rfl; have hcz14_5 : w12.cell? ⟨gb427, 5, none⟩ = some (.int .i64 a0_5) := (blk_cell BK427.out 5).trans rfl; have hfz14_0 := blk_frozen BK427.out 0; have hfz14_1 := blk_frozen BK427.out 1; have hfz14_2 := blk_frozen BK427.out 2; have hfz14_3 := blk_frozen BK427.out 3; have hfz14_4 := blk_frozen BK427.out 4; have hfz14_5 := blk_frozen BK427.out 5; have hcz15_0 : w12.cell? ⟨gb428, 0, none⟩ = some (.int .i64 a1_0) := (blk_cell BK428.out 0).trans rfl; have hcz15_1 : w12.cell? ⟨gb428, 1, none⟩ = some (.int .i64 a1_1) := (blk_cell BK428.out 1).trans rfl; have hcz15_2 : w12.cell? ⟨gb428, 2, none⟩ = some (.slice A1_2 l1_2.length c1_2) := (blk_cell BK428.out 2).trans rfl; have hcz15_3 : w12.cell? ⟨gb428, 3, none⟩ = some (.slice A1_3 l1_3.length c1_3) := (blk_cell BK428.out 3).trans rfl; have hcz15_4 : w12.cell? ⟨gb428, 4, none⟩ = some (.int .i64 a1_4) := (blk_cell BK428.out 4).trans rfl; have hcz15_5 : w12.cell? ⟨gb428, 5, none⟩ = some (.int .i64 a1_5) := (blk_cell BK428.out 5).trans rfl; have hfz15_0 := blk_frozen BK428.out 0; have hfz15_1 := blk_frozen BK428.out 1; have hfz15_2 := blk_frozen BK428.out 2; have hfz15_3 := blk_frozen BK428.out 3; have hfz15_4 := blk_frozen BK428.out 4; have hfz15_5 := blk_frozen BK428.out 5) | ((with_reducible refine gate_callee (f := 85) rfl ?_); refine goesL_ (some 19) rfl rfl Tryd.func85 (by kernel_rfl) rfl #[.slice A0_2 l0_2.length c0_2, .slice A1_2 l1_2.length c1_2] rfl (by (try simp only [List.map_toArray, List.map_cons, List.map_nil]); first | done | rfl | (simp only [List.length_drop, List.length_take]; rfl)) ?_; (with_reducible refine (laws_eqInt64S.calls k _ _ l0_2 _ _ l1_2 true _ ?side1 ?side2 ?side3 ?side4 A5.out).mono ?_); (case side1 => exact C_up (Kd.C_below HR0_2.out HB.out)); (case side2 => exact HC0_2.out); (case side3 => exact C_up (Kd.C_below HR1_2.out HB.out)); (case side4 => exact HC1_2.out); rintro e w' ⟨rfl, ⟨nd, rfl⟩⟩; refine ⟨_, rfl, ?_⟩) | ((with_reducible refine gate_callee (f := 12) rfl ?_); refine goesL_ (some 25) rfl rfl Tryd.func12 (by kernel_rfl) rfl #[.slice A0_3 l0_3.length c0_3, .slice A1_3 l1_3.length c1_3] rfl (by (try simp only [List.map_toArray, List.map_cons, List.map_nil]); first | done | rfl | (simp only [List.length_drop, List.length_take]; rfl)) ?_; (with_reducible refine (laws_eqRangeS.calls k _ _ l0_3 _ _ l1_3 true _ ?side1 ?side2 ?side3 ?side4 A7.out).mono ?_); (case side1 => repeat (first | exact (Kd.C_below HR0_3.out (by repeat (first | (with_reducible first | exact HB.out | apply below_alloc | apply pw_below_drewN | apply below_drew1 | refine below_set ?_ GE427.out | refine below_set ?_ GE428.out) | exact HB.out))) | (with_reducible refine Kd.C_alloc ?_ _) | (with_reducible refine Kd.C_drewN ?_ _) | (with_reducible refine Kd.C_drew ?_))); (case side2 => exact HC0_3.out); (case side3 => repeat (first | exact (Kd.C_below HR1_3.out (by repeat (first | (with_reducible first | exact HB.out | apply below_alloc | apply pw_below_drewN | apply below_drew1 | refine below_set ?_ GE427.out | refine below_set ?_ GE428.out) | exact HB.out))) | (with_reducible refine Kd.C_alloc ?_ _) | (with_reducible refine Kd.C_drewN ?_ _) | (with_reducible refine Kd.C_drew ?_))); (case side4 => exact HC1_3.out); rintro e w16 ⟨rfl, hb⟩; refine ⟨_, rfl, ?_⟩; have n0_ := Aside0.mk (blk_below (g := gb427) (blk_up BK427.out) hb); have n1_ := Aside0.mk (blk_below (g := gb428) (blk_up BK428.out) hb); have n2_ := Aside0.mk (below_step (by repeat (first | (with_reducible first | exact HB.out | apply below_alloc | apply pw_below_drewN | apply below_drew1 | refine below_set ?_ GE427.out | refine below_set ?_ GE428.out) | exact HB.out)) hb); clear BK427; clear BK428; clear HB; have BK427 := n0_; have BK428 := n1_; have HB := n2_; clear n0_ n1_ n2_; (try clear hb); (try clear hb2); (try clear hk); (try clear hi); have hcz17_0 : w16.cell? ⟨gb427, 0, none⟩ = some (.int .i64 a0_0) := (blk_cell BK427.out 0).trans rfl; have hcz17_1 : w16.cell? ⟨gb427, 1, none⟩ = some (.int .i64 a0_1) := (blk_cell BK427.out 1).trans rfl; have hcz17_2 : w16.cell? ⟨gb427, 2, none⟩ = some (.slice A0_2 l0_2.length c0_2) := (blk_cell BK427.out 2).trans rfl; have hcz17_3 : w16.cell? ⟨gb427, 3, none⟩ = some (.slice A0_3 l0_3.length c0_3) := (blk_cell BK427.out 3).trans rfl; have hcz17_4 : w16.cell? ⟨gb427, 4, none⟩ = some (.int .i64 a0_4) := (blk_cell BK427.out 4).trans rfl; have hcz17_5 : w16.cell? ⟨gb427, 5, none⟩ = some (.int .i64 a0_5) := (blk_cell BK427.out 5).trans rfl; have hfz17_0 := blk_frozen BK427.out 0; have hfz17_1 := blk_frozen BK427.out 1; have hfz17_2 := blk_frozen BK427.out 2; have hfz17_3 := blk_frozen BK427.out 3; have hfz17_4 := blk_frozen BK427.out 4; have hfz17_5 := blk_frozen BK427.out 5; have hcz18_0 : w16.cell? ⟨gb428, 0, none⟩ = some (.int .i64 a1_0) := (blk_cell BK428.out 0).trans rfl; have hcz18_1 : w16.cell? ⟨gb428, 1, none⟩ = some (.int .i64 a1_1) := (blk_cell BK428.out 1).trans rfl; have hcz18_2 : w16.cell? ⟨gb428, 2, none⟩ = some (.slice A1_2 l1_2.length c1_2) := (blk_cell BK428.out 2).trans rfl; have hcz18_3 : w16.cell? ⟨gb428, 3, none⟩ = some (.slice A1_3 l1_3.length c1_3) := (blk_cell BK428.out 3).trans rfl; have hcz18_4 : w16.cell? ⟨gb428, 4, none⟩ = some (.int .i64 a1_4) := (blk_cell BK428.out 4).trans rfl; have hcz18_5 : w16.cell? ⟨gb428, 5, none⟩ = some (.int .i64 a1_5) := (blk_cell BK428.out 5).trans rfl; have hfz18_0 := blk_frozen BK428.out 0; have hfz18_1 := blk_frozen BK428.out 1; have hfz18_2 := blk_frozen BK428.out 2; have hfz18_3 := blk_frozen BK428.out 3; have hfz18_4 := blk_frozen BK428.out 4; have hfz18_5 := blk_frozen BK428.out 5))
       go_ret
       exact ⟨by first | rfl | (simp [errW_none, errW_some] <;> rfl) | (simp [*, errW_none, errW_some] <;> rfl), by repeat (first | (with_reducible first | exact HB.out | apply below_alloc | apply pw_below_drewN | apply below_drew1 | refine below_set ?_ GE427.out | refine below_set ?_ GE428.out) | exact HB.out)⟩
     · replace c8 := Bool.eq_false_iff.mpr c8
       subst c8
       (try rw [if_neg (show ¬ (false = true) by decide)] at H)
       exact absurd H (by simp)
   · replace c6 := Bool.eq_false_iff.mpr c6
     subst c6
     (try rw [if_neg (show ¬ (false = true) by decide)] at H)
     exact absurd H (by simp)
 · rw [if_neg c3] at H
   exact absurd H (by simp)

end Go.Proofs.YtnehephjliankaaDoor.PFnExactTermsText

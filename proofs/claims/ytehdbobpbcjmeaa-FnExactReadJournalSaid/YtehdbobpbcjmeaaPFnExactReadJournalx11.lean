/- Functions of the program as Lean functions, each with the proof that its call comes to what that function says (texts written by a program of this session). Conditions: those that stand in each theorem. -/
import Derived.Test.YtehdbobpbcjmeaaPFnExactReadJournalx0
import Derived.Test.YtehdbobpbcjmeaaPFnExactReadJournalx1
import Derived.Test.YtehdbobpbcjmeaaPFnExactReadJournalx5
import Derived.Test.YtehdbobpbcjmeaaPFnExactReadJournalx10
namespace Go.Proofs.Ytehdbobpbcjmeaa.PFnExactReadJournal
open Go.RowKit Go.Proofs.YtehdbobpbcjmeaaW.PrintWords Go.Proofs.YtehdbobpbcjmeaaW.PrintLast Go.Proofs.YtehdbobpbcjmeaaW.PrintMore
attribute [local go_sem] max2_int min2_int max_two min_two max_three min_three max_four min_four   -- for this text's walks alone
set_option linter.unusedVariables false
set_option linter.unusedSimpArgs false

/-! ### laws_heldByteS: function 49 -/
def laws_heldByteS.l0 : Nat → List Int → Int → Int → Option (Int)
 | 0, _, _, _ => none
 | k + 1, x0, x1, x5 => if x5 < (x0.length : Int) then (if 0 ≤ x5 then (if (rd x0 x5) = ((x1) % 256) then (laws_heldByteS.l0 k x0 (wrap64 (x1 + 1)) (wrap64 (x5 + 1))) else (none)) else (none)) else (some x1)
def laws_heldByteS.f (k : Nat) (l0 : List Int) (a1 : Int) : Option (Int) := laws_heldByteS.l0 k l0 a1 0
set_option maxHeartbeats 8000000 in
set_option maxRecDepth 100000 in
theorem laws_heldByteS.calls (k : Nat) (A0 : Option Addr) (c0 : Nat) (l0 : List Int) (a1 : Int) (r : Int) (w : World) (hr0 : Kd.C (Kd.int .u8) w A0 l0.length l0) (hc0 : l0.length ≤ c0) (h : laws_heldByteS.f k l0 a1 = some r) :
 Calls Try.prog 49 #[.slice A0 l0.length c0, .int .i64 a1] w fun e w' => e = .returned (.int .i64 r) ∧ Drawn0 w w' := by
 have HR0 := Aside0.mk hr0
 have HC0 := Aside0.mk hc0
 clear hr0 hc0
 have H : (laws_heldByteS.l0 k l0 a1 0) = some r := h
 clear h
 have H' := Aside0.mk H
 clear H
 go_enter Try.func49, Try.ntmps49
 go_wp2
 go_loopg [1, 5] k (fun kq v1 v5 w' => ∃ (x1_1 : Int) (x5_1 : Int), v1 = .int .i64 x1_1 ∧ v5 = .int .i64 x5_1 ∧ Aside0 (laws_heldByteS.l0 kq l0 x1_1 x5_1 = some r) ∧ Aside0 (kq ≤ k) ∧ Drawn0 w w')
 case atStart => exact ⟨(a1), (0), vl_, vl_, H', ⟨Nat.le_refl _⟩, dr_⟩
 case round =>
  clear H'
  try clear p2
  obtain ⟨x1_1, x5_1, rfl, rfl, HA, HK1, ⟨m1, rfl⟩⟩ := hrel
  cases gk with
  | zero => exact absurd HA.out (by simp [laws_heldByteS.l0])
  | succ k1 =>
    have H := HA.out
    clear HA
    simp only [laws_heldByteS.l0] at H
    by_cases c3 : x5_1 < (l0.length : Int)
    ·
     rw [if_pos c3] at H
     have c3b0 : decide (x5_1 < (l0.length : Int)) = true := decide_eq_true c3
     clear c3
     by_cases c4 : 0 ≤ x5_1
     ·
      rw [if_pos c4] at H
      have c4b0 : decide (0 ≤ x5_1) = true := decide_eq_true c4
      clear c4
      by_cases c5 : (rd l0 x5_1) = ((x1_1) % 256)
      ·
       rw [if_pos c5] at H
       have c5b0 : ((rd l0 x5_1) == ((x1_1) % 256)) = true := beq_iff_eq.mpr c5
       have c5b1 : ((rd l0 x5_1) != ((x1_1) % 256)) = false := bne_eq_false_iff_eq.mpr c5
       clear c5
       have H' := Aside0.mk H
       clear H
       have p528 : 0 ≤ (x5_1 : Int) := od_
       have q528 : x5_1 < (l0.length : Int) := od_
       obtain ⟨ad528, e528, hx528_0⟩ := Kd.at_int HR0.out x5_1 p528 q528
       cases e528
       replace p528 := eq_true p528
       replace q528 := eq_true q528
       go_wp2
       go_roundg k1
       case measure => have := HK1.out; omega
       case rel => exact ⟨(wrap64 (x1_1 + 1)), (wrap64 (x5_1 + 1)), vl_, vl_, H', ⟨by have := HK1.out; omega⟩, dr_⟩
      · rw [if_neg c5] at H
        exact absurd H (by simp)
     · rw [if_neg c4] at H
       exact absurd H (by simp)
    ·
     rw [if_neg c3] at H
     have c3b0 : decide (x5_1 < (l0.length : Int)) = false := decide_eq_false c3
     clear c3
     obtain rfl := Option.some.inj H
     go_wp2
     go_ret
     exact ⟨vl_, dr_⟩

/-! ### laws_heldInt64S: function 92 -/
def laws_heldInt64S.l0 : Nat → List Int → Int → Int → Option (Int)
 | 0, _, _, _ => none
 | k + 1, x0, x1, x5 => if x5 < (x0.length : Int) then (if 0 ≤ x5 then (if (rd x0 x5) = x1 then (laws_heldInt64S.l0 k x0 (wrap64 (x1 + 1)) (wrap64 (x5 + 1))) else (none)) else (none)) else (some x1)
def laws_heldInt64S.f (k : Nat) (l0 : List Int) (a1 : Int) : Option (Int) := laws_heldInt64S.l0 k l0 a1 0
set_option maxHeartbeats 8000000 in
set_option maxRecDepth 100000 in
theorem laws_heldInt64S.calls (k : Nat) (A0 : Option Addr) (c0 : Nat) (l0 : List Int) (a1 : Int) (r : Int) (w : World) (hr0 : Kd.C (Kd.int .i64) w A0 l0.length l0) (hc0 : l0.length ≤ c0) (h : laws_heldInt64S.f k l0 a1 = some r) :
 Calls Try.prog 92 #[.slice A0 l0.length c0, .int .i64 a1] w fun e w' => e = .returned (.int .i64 r) ∧ Drawn0 w w' := by
 have HR0 := Aside0.mk hr0
 have HC0 := Aside0.mk hc0
 clear hr0 hc0
 have H : (laws_heldInt64S.l0 k l0 a1 0) = some r := h
 clear h
 have H' := Aside0.mk H
 clear H
 go_enter Try.func92, Try.ntmps92
 go_wp2
 go_loopg [1, 5] k (fun kq v1 v5 w' => ∃ (x1_1 : Int) (x5_1 : Int), v1 = .int .i64 x1_1 ∧ v5 = .int .i64 x5_1 ∧ Aside0 (laws_heldInt64S.l0 kq l0 x1_1 x5_1 = some r) ∧ Aside0 (kq ≤ k) ∧ Drawn0 w w')
 case atStart => exact ⟨(a1), (0), vl_, vl_, H', ⟨Nat.le_refl _⟩, dr_⟩
 case round =>
  clear H'
  try clear p2
  obtain ⟨x1_1, x5_1, rfl, rfl, HA, HK1, ⟨m1, rfl⟩⟩ := hrel
  cases gk with
  | zero => exact absurd HA.out (by simp [laws_heldInt64S.l0])
  | succ k1 =>
    have H := HA.out
    clear HA
    simp only [laws_heldInt64S.l0] at H
    by_cases c3 : x5_1 < (l0.length : Int)
    ·
     rw [if_pos c3] at H
     have c3b0 : decide (x5_1 < (l0.length : Int)) = true := decide_eq_true c3
     clear c3
     by_cases c4 : 0 ≤ x5_1
     ·
      rw [if_pos c4] at H
      have c4b0 : decide (0 ≤ x5_1) = true := decide_eq_true c4
      clear c4
      by_cases c5 : (rd l0 x5_1) = x1_1
      ·
       rw [if_pos c5] at H
       have c5b0 : ((rd l0 x5_1) == x1_1) = true := beq_iff_eq.mpr c5
       have c5b1 : ((rd l0 x5_1) != x1_1) = false := bne_eq_false_iff_eq.mpr c5
       clear c5
       have H' := Aside0.mk H
       clear H
       have p529 : 0 ≤ (x5_1 : Int) := od_
       have q529 : x5_1 < (l0.length : Int) := od_
       obtain ⟨ad529, e529, hx529_0⟩ := Kd.at_int HR0.out x5_1 p529 q529
       cases e529
       replace p529 := eq_true p529
       replace q529 := eq_true q529
       go_wp2
       go_roundg k1
       case measure => have := HK1.out; omega
       case rel => exact ⟨(wrap64 (x1_1 + 1)), (wrap64 (x5_1 + 1)), vl_, vl_, H', ⟨by have := HK1.out; omega⟩, dr_⟩
      · rw [if_neg c5] at H
        exact absurd H (by simp)
     · rw [if_neg c4] at H
       exact absurd H (by simp)
    ·
     rw [if_neg c3] at H
     have c3b0 : decide (x5_1 < (l0.length : Int)) = false := decide_eq_false c3
     clear c3
     obtain rfl := Option.some.inj H
     go_wp2
     go_ret
     exact ⟨vl_, dr_⟩

/-! ### laws_heldOpS: function 56 -/
def laws_heldOpS.l0 : Nat → List (S37) → Int → Int → Option (Int)
 | 0, _, _, _ => none
 | k + 1, x0, x1, x5 => if x5 < (x0.length : Int) then (if 0 ≤ x5 then (if ((rd_T37 x0 x5).f0) = x1 then ((laws_markText.f k (wrap64 (x1 + 1))).bind fun t532 => (if ((rd_T37 x0 x5).f1).toList = t532.toList then ((laws_markText.f k (wrap64 ((wrap64 (x1 + 1)) + 1))).bind fun t534 => (if ((rd_T37 x0 x5).f2).toList = t534.toList then ((laws_heldInt64S.f k ((rd_T37 x0 x5).f3) (wrap64 ((wrap64 ((wrap64 (x1 + 1)) + 1)) + 1))).bind fun t536 => (if t536 < 0 then (none) else (if ((rd_T37 x0 x5).f4) = t536 then (if ((rd_T37 x0 x5).f5) = (wrap64 (t536 + 1)) then (if ((rd_T37 x0 x5).f6) = (wrap64 ((wrap64 (t536 + 1)) + 1)) then ((laws_heldByteS.f k ((rd_T37 x0 x5).f7) (wrap64 ((wrap64 ((wrap64 (t536 + 1)) + 1)) + 1))).bind fun t541 => (if t541 < 0 then (none) else (laws_heldOpS.l0 k x0 t541 (wrap64 (x5 + 1))))) else (none)) else (none)) else (none)))) else (none))) else (none))) else (none)) else (none)) else (some x1)
def laws_heldOpS.f (k : Nat) (l0 : List (S37)) (a1 : Int) : Option (Int) := laws_heldOpS.l0 k l0 a1 0
def laws_heldOpS.T7 : Bool × List (List Nat × List Nat) := (true, [([], []), ([], []), ([0, 1], [0, 1]), ([2], [2]), ([3], [3]), ([], []), ([5], [5]), ([4, 6], [4, 6])])
def laws_heldOpS.B7 : List Nat := [0, 0, 3, 7, 15, 0, 32, 127]
theorem laws_heldOpS.tab7 : rtab .any (opsOf Try.f56 7) = laws_heldOpS.T7 := by kernel_rfl
theorem laws_heldOpS.bits7 : waitsOk laws_heldOpS.T7.2 laws_heldOpS.B7 = true := by kernel_rfl
def laws_heldOpS.T10 : Bool × List (List Nat × List Nat) := (true, [([], []), ([], []), ([0, 1], [0, 1]), ([2], [2]), ([3], [3]), ([], []), ([5], [5]), ([4, 6], [4, 6])])
def laws_heldOpS.B10 : List Nat := [0, 0, 3, 7, 15, 0, 32, 127]
theorem laws_heldOpS.tab10 : rtab .any (opsOf Try.f56 10) = laws_heldOpS.T10 := by kernel_rfl
theorem laws_heldOpS.bits10 : waitsOk laws_heldOpS.T10.2 laws_heldOpS.B10 = true := by kernel_rfl
set_option maxHeartbeats 8000000 in
set_option maxRecDepth 100000 in
theorem laws_heldOpS.calls (k : Nat) (A0 : Option Addr) (c0 : Nat) (l0 : List (S37)) (a1 : Int) (r : Int) (w : World) (hr0 : Kd.C k37 w A0 l0.length l0) (hc0 : l0.length ≤ c0) (h : laws_heldOpS.f k l0 a1 = some r) :
 Calls Try.prog 56 #[.slice A0 l0.length c0, .int .i64 a1] w fun e w' => e = .returned (.int .i64 r) ∧ Below w.heap.size w w' := by
 have HR0 := Aside0.mk hr0
 have HC0 := Aside0.mk hc0
 clear hr0 hc0
 have HB := Aside0.mk (Below.refl w.heap.size w)
 have H : (laws_heldOpS.l0 k l0 a1 0) = some r := h
 clear h
 have H' := Aside0.mk H
 clear H
 go_enter Try.func56, Try.ntmps56
 go_wp2
 go_loopg [1, 5] k (fun kq v1 v5 w' => ∃ (x1_1 : Int) (x5_1 : Int), v1 = .int .i64 x1_1 ∧ v5 = .int .i64 x5_1 ∧ Aside0 (laws_heldOpS.l0 kq l0 x1_1 x5_1 = some r) ∧ Aside0 (kq ≤ k) ∧ Aside0 (Below w.heap.size w w'))
 case atStart => exact ⟨(a1), (0), vl_, vl_, H', ⟨Nat.le_refl _⟩, ⟨hb_⟩⟩
 case round =>
  clear H'
  obtain ⟨x1_1, x5_1, rfl, rfl, HA, HK1, HB⟩ := hrel
  cases gk with
  | zero => exact absurd HA.out (by simp [laws_heldOpS.l0])
  | succ k1 =>
    have H := HA.out
    clear HA
    simp only [laws_heldOpS.l0] at H
    by_cases c3 : x5_1 < (l0.length : Int)
    ·
     rw [if_pos c3] at H
     have c3b0 : decide (x5_1 < (l0.length : Int)) = true := decide_eq_true c3
     clear c3
     by_cases c4 : 0 ≤ x5_1
     case neg => rw [if_neg c4] at H; exact absurd H (by simp)
     rw [if_pos c4] at H
     have c4b0 : decide (0 ≤ x5_1) = true := decide_eq_true c4
     clear c4
     by_cases c5 : ((rd_T37 l0 x5_1).f0) = x1_1
     case neg => rw [if_neg c5] at H; exact absurd H (by simp)
     rw [if_pos c5] at H
     have c5b0 : (((rd_T37 l0 x5_1).f0) == x1_1) = true := beq_iff_eq.mpr c5
     have c5b1 : (((rd_T37 l0 x5_1).f0) != x1_1) = false := bne_eq_false_iff_eq.mpr c5
     clear c5
     replace H := Option.bind_eq_some_iff.mp H
     obtain ⟨t532, A60, H⟩ := H
     (try dsimp only at H)
     have A6 := Aside0.mk A60
     clear A60
     by_cases c7 : ((rd_T37 l0 x5_1).f1).toList = t532.toList
     case neg => rw [if_neg c7] at H; exact absurd H (by simp)
     rw [if_pos c7] at H
     have c7b0 : (((rd_T37 l0 x5_1).f1).toList == t532.toList) = true := beq_iff_eq.mpr c7
     have c7b1 : (((rd_T37 l0 x5_1).f1).toList != t532.toList) = false := bne_eq_false_iff_eq.mpr c7
     clear c7
     replace H := Option.bind_eq_some_iff.mp H
     obtain ⟨t534, A80, H⟩ := H
     (try dsimp only at H)
     have A8 := Aside0.mk A80
     clear A80
     by_cases c9 : ((rd_T37 l0 x5_1).f2).toList = t534.toList
     case neg => rw [if_neg c9] at H; exact absurd H (by simp)
     rw [if_pos c9] at H
     have c9b0 : (((rd_T37 l0 x5_1).f2).toList == t534.toList) = true := beq_iff_eq.mpr c9
     have c9b1 : (((rd_T37 l0 x5_1).f2).toList != t534.toList) = false := bne_eq_false_iff_eq.mpr c9
     clear c9
     replace H := Option.bind_eq_some_iff.mp H
     obtain ⟨t536, A100, H⟩ := H
     (try dsimp only at H)
     have A10 := Aside0.mk A100
     clear A100
     by_cases c11 : t536 < 0
     · rw [if_pos c11] at H
       exact absurd H (by simp)
     ·
      rw [if_neg c11] at H
      have c11b0 : decide (t536 < 0) = false := decide_eq_false c11
      clear c11
      by_cases c12 : ((rd_T37 l0 x5_1).f4) = t536
      case neg => rw [if_neg c12] at H; exact absurd H (by simp)
      rw [if_pos c12] at H
      have c12b0 : (((rd_T37 l0 x5_1).f4) == t536) = true := beq_iff_eq.mpr c12
      have c12b1 : (((rd_T37 l0 x5_1).f4) != t536) = false := bne_eq_false_iff_eq.mpr c12
      clear c12
      by_cases c13 : ((rd_T37 l0 x5_1).f5) = (wrap64 (t536 + 1))
      case neg => rw [if_neg c13] at H; exact absurd H (by simp)
      rw [if_pos c13] at H
      have c13b0 : (((rd_T37 l0 x5_1).f5) == (wrap64 (t536 + 1))) = true := beq_iff_eq.mpr c13
      have c13b1 : (((rd_T37 l0 x5_1).f5) != (wrap64 (t536 + 1))) = false := bne_eq_false_iff_eq.mpr c13
      clear c13
      by_cases c14 : ((rd_T37 l0 x5_1).f6) = (wrap64 ((wrap64 (t536 + 1)) + 1))
      case neg => rw [if_neg c14] at H; exact absurd H (by simp)
      rw [if_pos c14] at H
      have c14b0 : (((rd_T37 l0 x5_1).f6) == (wrap64 ((wrap64 (t536 + 1)) + 1))) = true := beq_iff_eq.mpr c14
      have c14b1 : (((rd_T37 l0 x5_1).f6) != (wrap64 ((wrap64 (t536 + 1)) + 1))) = false := bne_eq_false_iff_eq.mpr c14
      clear c14
      replace H := Option.bind_eq_some_iff.mp H
      obtain ⟨t541, A150, H⟩ := H
      (try dsimp only at H)
      have A15 := Aside0.mk A150
      clear A150
      by_cases c16 : t541 < 0
      · rw [if_pos c16] at H
        exact absurd H (by simp)
      ·
       rw [if_neg c16] at H
       have c16b0 : decide (t541 < 0) = false := decide_eq_false c16
       clear c16
       have H' := Aside0.mk H
       clear H
       have p530 : 0 ≤ (x5_1 : Int) := od_
       have q530 : x5_1 < (l0.length : Int) := od_
       obtain ⟨ad530, A530_3, c530_3, A530_7, c530_7, e530, hx530_0, hx530_1, hx530_2, hx530_3, hx530_4, hx530_5, hx530_6, hx530_7, hl530_3, hi530_3, hl530_7, hi530_7⟩ := at_T37 HR0.out x5_1 p530 q530
       cases e530
       replace hx530_0 := ck_ HB.out hx530_0
       replace hx530_1 := ck_ HB.out hx530_1
       replace hx530_2 := ck_ HB.out hx530_2
       replace hx530_3 := ck_ HB.out hx530_3
       replace hx530_4 := ck_ HB.out hx530_4
       replace hx530_5 := ck_ HB.out hx530_5
       replace hx530_6 := ck_ HB.out hx530_6
       replace hx530_7 := ck_ HB.out hx530_7
       have HR530_3 := Aside0.mk hi530_3
       have HC530_3 := Aside0.mk hl530_3
       clear hi530_3 hl530_3
       have HR530_7 := Aside0.mk hi530_7
       have HC530_7 := Aside0.mk hl530_7
       clear hi530_7 hl530_7
       replace p530 := eq_true p530
       replace q530 := eq_true q530
       try go_wp2
       replace HB := Aside0.mk (below_drew1 HB.out)
       have p531 : 0 ≤ (x5_1 : Int) := od_
       have q531 : x5_1 < (l0.length : Int) := od_
       obtain ⟨ad531, A531_3, c531_3, A531_7, c531_7, e531, hx531_0, hx531_1, hx531_2, hx531_3, hx531_4, hx531_5, hx531_6, hx531_7, hl531_3, hi531_3, hl531_7, hi531_7⟩ := at_T37 HR0.out x5_1 p531 q531
       have hw531_7 := hx531_7
       have hw531_6 := hx531_6
       have hw531_5 := hx531_5
       have hw531_4 := hx531_4
       have hw531_3 := hx531_3
       have hw531_2 := hx531_2
       have hw531_1 := hx531_1
       have hw531_0 := hx531_0
       obtain rfl : ad530 = ad531 := (by injection e531)
       replace hx531_0 := ck_ HB.out hx531_0
       replace hx531_1 := ck_ HB.out hx531_1
       replace hx531_2 := ck_ HB.out hx531_2
       replace hx531_3 := ck_ HB.out hx531_3
       replace hx531_4 := ck_ HB.out hx531_4
       replace hx531_5 := ck_ HB.out hx531_5
       replace hx531_6 := ck_ HB.out hx531_6
       replace hx531_7 := ck_ HB.out hx531_7
       have HR531_3 := Aside0.mk hi531_3
       have HC531_3 := Aside0.mk hl531_3
       clear hi531_3 hl531_3
       have HR531_7 := Aside0.mk hi531_7
       have HC531_7 := Aside0.mk hl531_7
       clear hi531_7 hl531_7
       replace p531 := eq_true p531
       replace q531 := eq_true q531
       refine start_ (n := 8) (S := fun w' => w'.cell? (ad530.add ((x5_1).toNat * 8)) = some (.int .i64 ((rd_T37 l0 x5_1).f0)) ∧ w'.cell? ⟨(ad530.add ((x5_1).toNat * 8)).block, (ad530.add ((x5_1).toNat * 8)).off + 1, none⟩ = some (.string ((rd_T37 l0 x5_1).f1)) ∧ w'.cell? ⟨(ad530.add ((x5_1).toNat * 8)).block, (ad530.add ((x5_1).toNat * 8)).off + 2, none⟩ = some (.string ((rd_T37 l0 x5_1).f2)) ∧ w'.cell? ⟨(ad530.add ((x5_1).toNat * 8)).block, (ad530.add ((x5_1).toNat * 8)).off + 3, none⟩ = some (.slice A531_3 ((rd_T37 l0 x5_1).f3).length c531_3) ∧ w'.cell? ⟨(ad530.add ((x5_1).toNat * 8)).block, (ad530.add ((x5_1).toNat * 8)).off + 4, none⟩ = some (.int .i64 ((rd_T37 l0 x5_1).f4)) ∧ w'.cell? ⟨(ad530.add ((x5_1).toNat * 8)).block, (ad530.add ((x5_1).toNat * 8)).off + 5, none⟩ = some (.int .i64 ((rd_T37 l0 x5_1).f5)) ∧ w'.cell? ⟨(ad530.add ((x5_1).toNat * 8)).block, (ad530.add ((x5_1).toNat * 8)).off + 6, none⟩ = some (.int .i64 ((rd_T37 l0 x5_1).f6)) ∧ w'.cell? ⟨(ad530.add ((x5_1).toNat * 8)).block, (ad530.add ((x5_1).toNat * 8)).off + 7, none⟩ = some (.slice A531_7 ((rd_T37 l0 x5_1).f7).length c531_7)) (ds := []) #[false, false, false, false, false, false, false, false] (by kernel_rfl) rfl rfl ⟨(ck_ HB.out hw531_0), (ck_ HB.out hw531_1), (ck_ HB.out hw531_2), (ck_ HB.out hw531_3), (ck_ HB.out hw531_4), (ck_ HB.out hw531_5), (ck_ HB.out hw531_6), (ck_ HB.out hw531_7)⟩ (fun hHeld => ?_); refine with_tabW laws_heldOpS.tab7 laws_heldOpS.bits7 (fun HT_ HW_ => ?_)
       generalize wr.drew = w17 at HB HR531_3 HR531_7 hx531_0 hx531_1 hx531_2 hx531_3 hx531_4 hx531_5 hx531_6 hx531_7 hHeld ⊢
       refine pu_ (i := 0) (N := some 21) (v := ?_) (a' := ?_) rfl rfl (any_of HT_.out (by kernel_rfl)) (fun _ _ _ h => h) (Or.inl ⟨by rfl, ?_⟩) ?_ ?_; rotate_left
       · intro w'; go_simp; all_goals (first | with_reducible rfl | (simp [Instr.field, go_sem]; rfl))
       rotate_left
       · simp only [Act.put, List.setIfInBounds_toArray, List.set_cons_zero, List.set_cons_succ, i64_w, i32_w]; rfl
       refine pu_ (i := 1) (N := some 22) (v := ?_) (a' := ?_) rfl rfl (any_of HT_.out (by kernel_rfl)) (fun _ _ _ h => h) (Or.inl ⟨by rfl, ?_⟩) ?_ ?_; rotate_left
       · intro w'; go_simp; all_goals (first | with_reducible rfl | (simp [Instr.field, go_sem]; rfl))
       rotate_left
       · simp only [Act.put, List.setIfInBounds_toArray, List.set_cons_zero, List.set_cons_succ, i64_w, i32_w]; rfl
       refine pu_ (i := 2) (N := some 23) (v := ?_) (a' := ?_) rfl rfl (any_of HT_.out (by kernel_rfl)) (fun _ _ _ h => h) (Or.inl ⟨by rfl, ?_⟩) ?_ ?_; rotate_left
       · intro w'; go_simp; all_goals (first | with_reducible rfl | (simp [Instr.field, go_sem]; rfl))
       rotate_left
       · simp only [Act.put, List.setIfInBounds_toArray, List.set_cons_zero, List.set_cons_succ, i64_w, i32_w]; rfl
       refine pu_ (i := 3) (N := some 24) (v := ?_) (a' := ?_) rfl rfl (any_of HT_.out (by kernel_rfl)) (fun _ _ _ h => h) (Or.inl ⟨by rfl, ?_⟩) ?_ ?_; rotate_left
       · intro w'; go_simp; all_goals (first | with_reducible rfl | (simp [Instr.field, go_sem]; rfl))
       rotate_left
       · simp only [Act.put, List.setIfInBounds_toArray, List.set_cons_zero, List.set_cons_succ, i64_w, i32_w]; rfl
       refine pu_ (i := 5) (N := some 26) (v := ?_) (a' := ?_) rfl rfl (any_of HT_.out (by kernel_rfl)) (fun _ _ _ h => h) (Or.inl ⟨by rfl, ?_⟩) ?_ ?_; rotate_left
       · intro w'; go_simp; all_goals (first | with_reducible rfl | (simp [Instr.field, go_sem]; rfl))
       rotate_left
       · simp only [Act.put, List.setIfInBounds_toArray, List.set_cons_zero, List.set_cons_succ, i64_w, i32_w]; rfl
       refine ta_ (i := 4) (N := some 25) (v := ?_) (a' := ?_) rfl rfl (take_ofW HT_.out HW_.out (by kernel_rfl)) (fun _ _ _ h => h) (Or.inl ⟨by rfl, ?_⟩) hHeld ?_ ?_; rotate_left
       · rintro w' ⟨s0, s1, s2, s3, s4, s5, s6, s7⟩; go_simp; all_goals (first | with_reducible rfl | (simp [Instr.field, go_sem]; rfl))
       rotate_left
       · simp only [Act.put, List.setIfInBounds_toArray, List.set_cons_zero, List.set_cons_succ, i64_w, i32_w]; rfl
       refine on_ (i := 6) (N := some 27) rfl rfl (one_of HT_.out (by kernel_rfl)) (by decide) (fun K hK => ?_)
       refine goes_ Try.func47 (by kernel_rfl) rfl #[.int .i64 (wrap64 (x1_1 + 1))] (by rfl) rfl rfl (by (try simp only [List.map_toArray, List.map_cons, List.map_nil]); first | done | rfl | (simp only [List.length_drop, List.length_take]; rfl)) ?_
       with_reducible refine (laws_markText.calls k1 (wrap64 (x1_1 + 1)) t532 _ A6.out).mono ?_
       rintro e w18 ⟨rfl, hb⟩
       refine ⟨_, rfl, ?_⟩
       replace HB := Aside0.mk (below_step (HB_up HB.out) hb)
       (try clear hb)
       refine hK.out _ _ ⟨(ck_ HB.out hw531_0), (ck_ HB.out hw531_1), (ck_ HB.out hw531_2), (ck_ HB.out hw531_3), (ck_ HB.out hw531_4), (ck_ HB.out hw531_5), (ck_ HB.out hw531_6), (ck_ HB.out hw531_7)⟩ (fun hHeld => ?_)
       clear hK K
       refine norm_ (a' := ?_) ?_ ?_
       rotate_left
       · show Act.put _ (some 27) _ = _
         simp only [Act.put, List.setIfInBounds_toArray, List.set_cons_zero, List.set_cons_succ, i64_w, i32_w]
         rfl
       refine pu_ (i := 7) (N := some 28) (v := ?_) (a' := ?_) rfl rfl (any_of HT_.out (by kernel_rfl)) (fun _ _ _ h => h) (Or.inl ⟨by rfl, ?_⟩) ?_ ?_; rotate_left
       · intro w'; go_simp; all_goals (first | with_reducible rfl | (simp [Instr.field, go_sem]; rfl))
       rotate_left
       · simp only [Act.put, List.setIfInBounds_toArray, List.set_cons_zero, List.set_cons_succ, i64_w, i32_w]; rfl
       refine done_ (done_of HT_.out (by kernel_rfl)) ?_
       try go_wp2
       replace HB := Aside0.mk (below_drew1 HB.out)
       have p533 : 0 ≤ (x5_1 : Int) := od_
       have q533 : x5_1 < (l0.length : Int) := od_
       obtain ⟨ad533, A533_3, c533_3, A533_7, c533_7, e533, hx533_0, hx533_1, hx533_2, hx533_3, hx533_4, hx533_5, hx533_6, hx533_7, hl533_3, hi533_3, hl533_7, hi533_7⟩ := at_T37 HR0.out x5_1 p533 q533
       have hw533_7 := hx533_7
       have hw533_6 := hx533_6
       have hw533_5 := hx533_5
       have hw533_4 := hx533_4
       have hw533_3 := hx533_3
       have hw533_2 := hx533_2
       have hw533_1 := hx533_1
       have hw533_0 := hx533_0
       obtain rfl : ad530 = ad533 := (by injection e533)
       replace hx533_0 := ck_ HB.out hx533_0
       replace hx533_1 := ck_ HB.out hx533_1
       replace hx533_2 := ck_ HB.out hx533_2
       replace hx533_3 := ck_ HB.out hx533_3
       replace hx533_4 := ck_ HB.out hx533_4
       replace hx533_5 := ck_ HB.out hx533_5
       replace hx533_6 := ck_ HB.out hx533_6
       replace hx533_7 := ck_ HB.out hx533_7
       have HR533_3 := Aside0.mk hi533_3
       have HC533_3 := Aside0.mk hl533_3
       clear hi533_3 hl533_3
       have HR533_7 := Aside0.mk hi533_7
       have HC533_7 := Aside0.mk hl533_7
       clear hi533_7 hl533_7
       replace p533 := eq_true p533
       replace q533 := eq_true q533
       refine start_ (n := 8) (S := fun w' => w'.cell? (ad530.add ((x5_1).toNat * 8)) = some (.int .i64 ((rd_T37 l0 x5_1).f0)) ∧ w'.cell? ⟨(ad530.add ((x5_1).toNat * 8)).block, (ad530.add ((x5_1).toNat * 8)).off + 1, none⟩ = some (.string ((rd_T37 l0 x5_1).f1)) ∧ w'.cell? ⟨(ad530.add ((x5_1).toNat * 8)).block, (ad530.add ((x5_1).toNat * 8)).off + 2, none⟩ = some (.string ((rd_T37 l0 x5_1).f2)) ∧ w'.cell? ⟨(ad530.add ((x5_1).toNat * 8)).block, (ad530.add ((x5_1).toNat * 8)).off + 3, none⟩ = some (.slice A533_3 ((rd_T37 l0 x5_1).f3).length c533_3) ∧ w'.cell? ⟨(ad530.add ((x5_1).toNat * 8)).block, (ad530.add ((x5_1).toNat * 8)).off + 4, none⟩ = some (.int .i64 ((rd_T37 l0 x5_1).f4)) ∧ w'.cell? ⟨(ad530.add ((x5_1).toNat * 8)).block, (ad530.add ((x5_1).toNat * 8)).off + 5, none⟩ = some (.int .i64 ((rd_T37 l0 x5_1).f5)) ∧ w'.cell? ⟨(ad530.add ((x5_1).toNat * 8)).block, (ad530.add ((x5_1).toNat * 8)).off + 6, none⟩ = some (.int .i64 ((rd_T37 l0 x5_1).f6)) ∧ w'.cell? ⟨(ad530.add ((x5_1).toNat * 8)).block, (ad530.add ((x5_1).toNat * 8)).off + 7, none⟩ = some (.slice A533_7 ((rd_T37 l0 x5_1).f7).length c533_7)) (ds := []) #[false, false, false, false, false, false, false, false] (by kernel_rfl) rfl rfl ⟨(ck_ HB.out hw533_0), (ck_ HB.out hw533_1), (ck_ HB.out hw533_2), (ck_ HB.out hw533_3), (ck_ HB.out hw533_4), (ck_ HB.out hw533_5), (ck_ HB.out hw533_6), (ck_ HB.out hw533_7)⟩ (fun hHeld => ?_); refine with_tabW laws_heldOpS.tab10 laws_heldOpS.bits10 (fun HT_ HW_ => ?_)
       generalize w18.drew = w19 at HB HR533_3 HR533_7 hx533_0 hx533_1 hx533_2 hx533_3 hx533_4 hx533_5 hx533_6 hx533_7 hHeld ⊢
       refine pu_ (i := 0) (N := some 31) (v := ?_) (a' := ?_) rfl rfl (any_of HT_.out (by kernel_rfl)) (fun _ _ _ h => h) (Or.inl ⟨by rfl, ?_⟩) ?_ ?_; rotate_left
       · intro w'; go_simp; all_goals (first | with_reducible rfl | (simp [Instr.field, go_sem]; rfl))
       rotate_left
       · simp only [Act.put, List.setIfInBounds_toArray, List.set_cons_zero, List.set_cons_succ, i64_w, i32_w]; rfl
       refine pu_ (i := 1) (N := some 32) (v := ?_) (a' := ?_) rfl rfl (any_of HT_.out (by kernel_rfl)) (fun _ _ _ h => h) (Or.inl ⟨by rfl, ?_⟩) ?_ ?_; rotate_left
       · intro w'; go_simp; all_goals (first | with_reducible rfl | (simp [Instr.field, go_sem]; rfl))
       rotate_left
       · simp only [Act.put, List.setIfInBounds_toArray, List.set_cons_zero, List.set_cons_succ, i64_w, i32_w]; rfl
       refine pu_ (i := 2) (N := some 33) (v := ?_) (a' := ?_) rfl rfl (any_of HT_.out (by kernel_rfl)) (fun _ _ _ h => h) (Or.inl ⟨by rfl, ?_⟩) ?_ ?_; rotate_left
       · intro w'; go_simp; all_goals (first | with_reducible rfl | (simp [Instr.field, go_sem]; rfl))
       rotate_left
       · simp only [Act.put, List.setIfInBounds_toArray, List.set_cons_zero, List.set_cons_succ, i64_w, i32_w]; rfl
       refine pu_ (i := 3) (N := some 34) (v := ?_) (a' := ?_) rfl rfl (any_of HT_.out (by kernel_rfl)) (fun _ _ _ h => h) (Or.inl ⟨by rfl, ?_⟩) ?_ ?_; rotate_left
       · intro w'; go_simp; all_goals (first | with_reducible rfl | (simp [Instr.field, go_sem]; rfl))
       rotate_left
       · simp only [Act.put, List.setIfInBounds_toArray, List.set_cons_zero, List.set_cons_succ, i64_w, i32_w]; rfl
       refine pu_ (i := 5) (N := some 36) (v := ?_) (a' := ?_) rfl rfl (any_of HT_.out (by kernel_rfl)) (fun _ _ _ h => h) (Or.inl ⟨by rfl, ?_⟩) ?_ ?_; rotate_left
       · intro w'; go_simp; all_goals (first | with_reducible rfl | (simp [Instr.field, go_sem]; rfl))
       rotate_left
       · simp only [Act.put, List.setIfInBounds_toArray, List.set_cons_zero, List.set_cons_succ, i64_w, i32_w]; rfl
       refine ta_ (i := 4) (N := some 35) (v := ?_) (a' := ?_) rfl rfl (take_ofW HT_.out HW_.out (by kernel_rfl)) (fun _ _ _ h => h) (Or.inl ⟨by rfl, ?_⟩) hHeld ?_ ?_; rotate_left
       · rintro w' ⟨s0, s1, s2, s3, s4, s5, s6, s7⟩; go_simp; all_goals (first | with_reducible rfl | (simp [Instr.field, go_sem]; rfl))
       rotate_left
       · simp only [Act.put, List.setIfInBounds_toArray, List.set_cons_zero, List.set_cons_succ, i64_w, i32_w]; rfl
       refine on_ (i := 6) (N := some 37) rfl rfl (one_of HT_.out (by kernel_rfl)) (by decide) (fun K hK => ?_)
       refine goes_ Try.func47 (by kernel_rfl) rfl #[.int .i64 (wrap64 ((wrap64 (x1_1 + 1)) + 1))] (by rfl) rfl rfl (by (try simp only [List.map_toArray, List.map_cons, List.map_nil]); first | done | rfl | (simp only [List.length_drop, List.length_take]; rfl)) ?_
       with_reducible refine (laws_markText.calls k1 (wrap64 ((wrap64 (x1_1 + 1)) + 1)) t534 _ A8.out).mono ?_
       rintro e w20 ⟨rfl, hb⟩
       refine ⟨_, rfl, ?_⟩
       replace HB := Aside0.mk (below_step (HB_up HB.out) hb)
       (try clear hb)
       refine hK.out _ _ ⟨(ck_ HB.out hw533_0), (ck_ HB.out hw533_1), (ck_ HB.out hw533_2), (ck_ HB.out hw533_3), (ck_ HB.out hw533_4), (ck_ HB.out hw533_5), (ck_ HB.out hw533_6), (ck_ HB.out hw533_7)⟩ (fun hHeld => ?_)
       clear hK K
       refine norm_ (a' := ?_) ?_ ?_
       rotate_left
       · show Act.put _ (some 37) _ = _
         simp only [Act.put, List.setIfInBounds_toArray, List.set_cons_zero, List.set_cons_succ, i64_w, i32_w]
         rfl
       refine pu_ (i := 7) (N := some 38) (v := ?_) (a' := ?_) rfl rfl (any_of HT_.out (by kernel_rfl)) (fun _ _ _ h => h) (Or.inl ⟨by rfl, ?_⟩) ?_ ?_; rotate_left
       · intro w'; go_simp; all_goals (first | with_reducible rfl | (simp [Instr.field, go_sem]; rfl))
       rotate_left
       · simp only [Act.put, List.setIfInBounds_toArray, List.set_cons_zero, List.set_cons_succ, i64_w, i32_w]; rfl
       refine done_ (done_of HT_.out (by kernel_rfl)) ?_
       have p535 : 0 ≤ (x5_1 : Int) := od_
       have q535 : x5_1 < (l0.length : Int) := od_
       obtain ⟨ad535, A535_3, c535_3, A535_7, c535_7, e535, hx535_0, hx535_1, hx535_2, hx535_3, hx535_4, hx535_5, hx535_6, hx535_7, hl535_3, hi535_3, hl535_7, hi535_7⟩ := at_T37 HR0.out x5_1 p535 q535
       obtain rfl : ad530 = ad535 := (by injection e535)
       replace hx535_0 := ck_ HB.out hx535_0
       replace hx535_1 := ck_ HB.out hx535_1
       replace hx535_2 := ck_ HB.out hx535_2
       replace hx535_3 := ck_ HB.out hx535_3
       replace hx535_4 := ck_ HB.out hx535_4
       replace hx535_5 := ck_ HB.out hx535_5
       replace hx535_6 := ck_ HB.out hx535_6
       replace hx535_7 := ck_ HB.out hx535_7
       have HR535_3 := Aside0.mk hi535_3
       have HC535_3 := Aside0.mk hl535_3
       clear hi535_3 hl535_3
       have HR535_7 := Aside0.mk hi535_7
       have HC535_7 := Aside0.mk hl535_7
       clear hi535_7 hl535_7
       replace p535 := eq_true p535
       replace q535 := eq_true q535
       (try clear hx530_0 hx530_1 hx530_2 hx530_3 hx530_4 hx530_5 hx530_6 hx530_7)
       (try clear hHeld)
       try go_wp2_with (first | ((with_reducible refine gate_callee (f := 92) rfl ?_); refine goesY_ (some 47) Try.func92 #[.slice A535_3 ((rd_T37 l0 x5_1).f3).length c535_3, .int .i64 (wrap64 ((wrap64 ((wrap64 (x1_1 + 1)) + 1)) + 1))] rfl ?_; (with_reducible refine (laws_heldInt64S.calls k1 _ _ ((rd_T37 l0 x5_1).f3) (wrap64 ((wrap64 ((wrap64 (x1_1 + 1)) + 1)) + 1)) t536 _ ?_ ?_ A10.out).mono ?_); exact C_up (Kd.C_below HR535_3.out HB.out); exact HC535_3.out; rintro e w' ⟨rfl, ⟨nd, rfl⟩⟩; refine ⟨_, rfl, ?_⟩; have p538 : 0 ≤ (x5_1 : Int) := od_; have q538 : x5_1 < (l0.length : Int) := od_; obtain ⟨ad538, A538_3, c538_3, A538_7, c538_7, e538, hx538_0, hx538_1, hx538_2, hx538_3, hx538_4, hx538_5, hx538_6, hx538_7, hl538_3, hi538_3, hl538_7, hi538_7⟩ := at_T37 HR0.out x5_1 p538 q538; obtain rfl : ad530 = ad538 := (by injection e538); replace hx538_0 := ck_ HB.out hx538_0; replace hx538_1 := ck_ HB.out hx538_1; replace hx538_2 := ck_ HB.out hx538_2; replace hx538_3 := ck_ HB.out hx538_3; replace hx538_4 := ck_ HB.out hx538_4; replace hx538_5 := ck_ HB.out hx538_5; replace hx538_6 := ck_ HB.out hx538_6; replace hx538_7 := ck_ HB.out hx538_7; have HR538_3 := Aside0.mk hi538_3; have HC538_3 := Aside0.mk hl538_3; clear hi538_3 hl538_3; have HR538_7 := Aside0.mk hi538_7; have HC538_7 := Aside0.mk hl538_7; clear hi538_7 hl538_7; replace p538 := eq_true p538; replace q538 := eq_true q538; have ea_ := Option.some.inj (hx535_3.symm.trans hx538_3); injection ea_ with ea_ en_ ec_; subst ea_; subst ec_; clear en_; have ea_ := Option.some.inj (hx535_7.symm.trans hx538_7); injection ea_ with ea_ en_ ec_; subst ea_; subst ec_; clear en_; (try clear hx538_0); (try clear hx538_1); (try clear hx538_2); (try clear hx538_3); (try clear hx538_4); (try clear hx538_5); (try clear hx538_6); (try clear hx538_7); (try clear qi538); have p540 : 0 ≤ (x5_1 : Int) := od_; have q540 : x5_1 < (l0.length : Int) := od_; obtain ⟨ad540, A540_3, c540_3, A540_7, c540_7, e540, hx540_0, hx540_1, hx540_2, hx540_3, hx540_4, hx540_5, hx540_6, hx540_7, hl540_3, hi540_3, hl540_7, hi540_7⟩ := at_T37 HR0.out x5_1 p540 q540; obtain rfl : ad530 = ad540 := (by injection e540); replace hx540_0 := ck_ HB.out hx540_0; replace hx540_1 := ck_ HB.out hx540_1; replace hx540_2 := ck_ HB.out hx540_2; replace hx540_3 := ck_ HB.out hx540_3; replace hx540_4 := ck_ HB.out hx540_4; replace hx540_5 := ck_ HB.out hx540_5; replace hx540_6 := ck_ HB.out hx540_6; replace hx540_7 := ck_ HB.out hx540_7; have HR540_3 := Aside0.mk hi540_3; have HC540_3 := Aside0.mk hl540_3; clear hi540_3 hl540_3; have HR540_7 := Aside0.mk hi540_7; have HC540_7 := Aside0.mk hl540_7; clear hi540_7 hl540_7; replace p540 := eq_true p540; replace q540 := eq_true q540; have ea_ := Option.some.inj (hx535_3.symm.trans hx540_3); injection ea_ with ea_ en_ ec_; subst ea_; subst ec_; clear en_; have ea_ := Option.some.inj (hx535_7.symm.trans hx540_7); injection ea_ with ea_ en_ ec_; subst ea_; subst ec_; clear en_; (try clear hx540_0); (try clear hx540_1); (try clear hx540_2); (try clear hx540_3); (try clear hx540_4); (try clear hx540_5); (try clear hx540_6); (try clear hx540_7); (try clear qi540)) | ((with_reducible refine gate_callee (f := 49) rfl ?_); refine goesY_ (some 83) Try.func49 #[.slice A535_7 ((rd_T37 l0 x5_1).f7).length c535_7, .int .i64 (wrap64 ((wrap64 ((wrap64 (t536 + 1)) + 1)) + 1))] rfl ?_; (with_reducible refine (laws_heldByteS.calls k1 _ _ ((rd_T37 l0 x5_1).f7) (wrap64 ((wrap64 ((wrap64 (t536 + 1)) + 1)) + 1)) t541 _ ?_ ?_ A15.out).mono ?_); exact Kd.C_below HR540_7.out (HB_up HB.out); exact HC540_7.out; rintro e w' ⟨rfl, ⟨nd, rfl⟩⟩; refine ⟨_, rfl, ?_⟩))
       go_roundg k1
       case measure => have := HK1.out; omega
       case rel => exact ⟨(t541), (wrap64 (x5_1 + 1)), vl_, vl_, H', ⟨by have := HK1.out; omega⟩, ⟨hb_⟩⟩
    ·
     rw [if_neg c3] at H
     have c3b0 : decide (x5_1 < (l0.length : Int)) = false := decide_eq_false c3
     clear c3
     obtain rfl := Option.some.inj H
     go_wp2
     go_ret
     exact ⟨ve_, hb_⟩

/-! ### laws_heldOpsResult: function 29 -/
def laws_heldOpsResult.f (k : Nat) (a0_0 : Int) (a0_1 : Int) (l0_2 : List (S37)) (a1 : Int) : Option (Int) := (laws_heldOpS.f k l0_2 a1).bind fun t543 => (if t543 < 0 then (none) else (some t543))
set_option maxHeartbeats 8000000 in
set_option maxRecDepth 100000 in
theorem laws_heldOpsResult.calls (k : Nat) (a0_0 : Int) (a0_1 : Int) (A0_2 : Option Addr) (c0_2 : Nat) (l0_2 : List (S37)) (a1 : Int) (r : Int) (w : World) (hr0_2 : Kd.C k37 w A0_2 l0_2.length l0_2) (hc0_2 : l0_2.length ≤ c0_2) (h : laws_heldOpsResult.f k a0_0 a0_1 l0_2 a1 = some r) :
 Calls Try.prog 29 #[.agg #[.int .i64 a0_0, .int .i64 a0_1, .slice A0_2 l0_2.length c0_2], .int .i64 a1] w fun e w' => e = .returned (.int .i64 r) ∧ Below w.heap.size w w' := by
 have hu48 := Try.underlying48
 have HR0_2 := Aside0.mk hr0_2
 have HC0_2 := Aside0.mk hc0_2
 clear hr0_2 hc0_2
 have HB := Aside0.mk (Below.refl w.heap.size w)
 have H : ((laws_heldOpS.f k l0_2 a1).bind fun t543 => (if t543 < 0 then (none) else (some t543))) = some r := h
 clear h
 replace H := Option.bind_eq_some_iff.mp H
 obtain ⟨t543, A30, H⟩ := H
 replace H : (if t543 < 0 then (none) else (some t543)) = some r := H
 have A3 := Aside0.mk A30
 clear A30
 by_cases c4 : t543 < 0
 · rw [if_pos c4] at H
   exact absurd H (by simp)
 ·
  rw [if_neg c4] at H
  have c4b0 : decide (t543 < 0) = false := decide_eq_false c4
  clear c4
  obtain rfl := Option.some.inj H
  go_enter Try.func29, Try.ntmps29
  go_wp2_with (first | ((with_reducible refine gate_dst (N := 2) rfl ?_); refine box_event ?hg (N := 2) ?hd (cs := #[.int .i64 a0_0, .int .i64 a0_1, .slice A0_2 l0_2.length c0_2]) (t := 48) ?hr ?_; (case hd => rfl); (case hg => rfl); (case hr => first | (go_simp; done) | (go_simp; rfl)); intro gb542 hg w5 hbox hb; have n0_ := Aside0.mk (below_step (HB_up HB.out) hb); have n1_ := Aside0.mk (hbox); have n2_ := Aside0.mk ((by rw [hg]; exact (below_size (HB_up HB.out)) : w.heap.size ≤ gb542)); have n3_ := Aside0.mk ((by rw [hg]; exact (below_size (HB_up HB.out)) : w.heap.size ≤ gb542)); clear HB; have HB := n0_; have BK542 := n1_; have GW542 := n2_; have GE542 := n3_; clear n0_ n1_ n2_ n3_; clear hb hbox hg; have hcz6_0 : w5.cell? ⟨gb542, 0, none⟩ = some (.int .i64 a0_0) := (blk_cell BK542.out 0).trans rfl; have hcz6_1 : w5.cell? ⟨gb542, 1, none⟩ = some (.int .i64 a0_1) := (blk_cell BK542.out 1).trans rfl; have hcz6_2 : w5.cell? ⟨gb542, 2, none⟩ = some (.slice A0_2 l0_2.length c0_2) := (blk_cell BK542.out 2).trans rfl; have hfz6_0 := blk_frozen BK542.out 0; have hfz6_1 := blk_frozen BK542.out 1; have hfz6_2 := blk_frozen BK542.out 2) | ((with_reducible refine gate_callee (f := 56) rfl ?_); refine goesY_ (some 8) Try.func56 #[.slice A0_2 l0_2.length c0_2, .int .i64 a1] rfl ?_; (with_reducible refine (laws_heldOpS.calls k _ _ l0_2 a1 t543 _ ?_ ?_ A3.out).mono ?_); exact C_up (Kd.C_below HR0_2.out HB.out); exact HC0_2.out; rintro e w7 ⟨rfl, hb⟩; refine ⟨_, rfl, ?_⟩; replace BK542 := Aside0.mk (blk_below (g := gb542) (blk_up BK542.out) hb); replace HB := Aside0.mk (below_step (HB_up HB.out) hb); (try clear hb)))
  go_ret
  exact ⟨ve_, hs_⟩

/-! ### laws_FnExactReadJournal: function 5 -/
def laws_FnExactReadJournal.j0 : Nat → List Int → Bool → Int → Int → List (S37) → Int → Int → List (S37) → Option (Bool)
 | 0, _, _, _, _, _, _, _, _ => none
 | k + 1, x0, x39, x553000, x553001, x553002, x562000, x562001, x562002 => if x39 = true then (none) else ((laws_markOpsResult.f k x562000 x562001 x562002 1).bind fun bt570 => ((laws_heldOpsResult.f k x562000 x562001 bt570.2 1).bind fun t572 => (if t572 < 0 then (none) else (if t572 = bt570.1 then ((laws_toByteS.f k x0).bind fun t573 => ((impl_ReadJournal.f k t573).bind fun bt576 => ((laws_eqOpsResult.f k bt576.1 bt576.2.1 bt576.2.2 x553000 x553001 x553002).bind fun t582 => (if t582 = true then ((laws_heldOpsResult.f k x562000 x562001 bt570.2 1).bind fun t583 => (if t583 < 0 then (none) else (if t583 = bt570.1 then (some true) else (none)))) else (none))))) else (none)))))
def laws_FnExactReadJournal.f (k : Nat) (l0 : List Int) : Option (Bool) := if (l0.length : Int) > 1048576 then (some true) else ((laws_toByteS.f k l0).bind fun t544 => ((spec_ReadJournal.f k t544).bind fun bt547 => ((laws_toByteS.f k l0).bind fun t553 => ((impl_ReadJournal.f k t553).bind fun bt556 => ((laws_eqOpsResult.f k bt556.1 bt556.2.1 bt556.2.2 bt547.1 bt547.2.1 bt547.2.2).bind fun t562 => (if t562 = true then ((laws_toByteS.f k l0).bind fun t563 => ((laws_eqByteS.f k t553 t563).bind fun t566 => (if t566 = true then ((laws_markByteS.f k t553 1).bind fun bt567 => (if bt567.1 < 0 then (laws_FnExactReadJournal.j0 k l0 true bt547.1 bt547.2.1 bt547.2.2 bt556.1 bt556.2.1 bt556.2.2) else ((laws_eqOpsResult.f k bt556.1 bt556.2.1 bt556.2.2 bt547.1 bt547.2.1 bt547.2.2).bind fun t569 => (laws_FnExactReadJournal.j0 k l0 (!t569) bt547.1 bt547.2.1 bt547.2.2 bt556.1 bt556.2.1 bt556.2.2)))) else (none)))) else (none)))))))
set_option maxHeartbeats 8000000 in
set_option maxRecDepth 100000 in
theorem laws_FnExactReadJournal.calls (k : Nat) (A0 : Option Addr) (c0 : Nat) (l0 : List Int) (r : Bool) (w : World) (hr0 : Kd.C (Kd.int .u8) w A0 l0.length l0) (hc0 : l0.length ≤ c0) (h : laws_FnExactReadJournal.f k l0 = some r) :
 Calls Try.prog 5 #[.slice A0 l0.length c0] w fun e w' => e = .returned (.bool r) ∧ Below w.heap.size w w' := by
 have hu48 := Try.underlying48
 have HR0 := Aside0.mk hr0
 have HC0 := Aside0.mk hc0
 clear hr0 hc0
 have HB := Aside0.mk (Below.refl w.heap.size w)
 have H : (if (l0.length : Int) > 1048576 then (some true) else ((laws_toByteS.f k l0).bind fun t544 => ((spec_ReadJournal.f k t544).bind fun bt547 => ((laws_toByteS.f k l0).bind fun t553 => ((impl_ReadJournal.f k t553).bind fun bt556 => ((laws_eqOpsResult.f k bt556.1 bt556.2.1 bt556.2.2 bt547.1 bt547.2.1 bt547.2.2).bind fun t562 => (if t562 = true then ((laws_toByteS.f k l0).bind fun t563 => ((laws_eqByteS.f k t553 t563).bind fun t566 => (if t566 = true then ((laws_markByteS.f k t553 1).bind fun bt567 => (if bt567.1 < 0 then (laws_FnExactReadJournal.j0 k l0 true bt547.1 bt547.2.1 bt547.2.2 bt556.1 bt556.2.1 bt556.2.2) else ((laws_eqOpsResult.f k bt556.1 bt556.2.1 bt556.2.2 bt547.1 bt547.2.1 bt547.2.2).bind fun t569 => (laws_FnExactReadJournal.j0 k l0 (!t569) bt547.1 bt547.2.1 bt547.2.2 bt556.1 bt556.2.1 bt556.2.2)))) else (none)))) else (none)))))))) = some r := h
 clear h
 by_cases c2 : (l0.length : Int) > 1048576
 ·
  rw [if_pos c2] at H
  have c2b0 : decide (1048576 < (l0.length : Int)) = true := decide_eq_true c2
  have c2b1 : decide (1048576 < l0.length) = true := decide_eq_true (by omega)
  clear c2
  obtain rfl := Option.some.inj H
  go_enter Try.func5, Try.ntmps5
  go_wp2
  go_ret
  exact ⟨by first | exact ve_ | (simp; generalize ByteArray.toList _ = zq_; cases zq_ <;> rfl), hb_⟩
 ·
  rw [if_neg c2] at H
  have c2b0 : decide (1048576 < (l0.length : Int)) = false := decide_eq_false c2
  have c2b1 : decide (1048576 < l0.length) = false := decide_eq_false (by omega)
  clear c2
  replace H := Option.bind_eq_some_iff.mp H
  obtain ⟨t544, A30, H⟩ := H
  (try dsimp only at H)
  have A3 := Aside0.mk A30
  clear A30
  replace H := Option.bind_eq_some_iff.mp H
  obtain ⟨⟨t547, t548, t549⟩, A40, H⟩ := H
  (try dsimp only at H)
  have A4 := Aside0.mk A40
  clear A40
  replace H := Option.bind_eq_some_iff.mp H
  obtain ⟨t553, A50, H⟩ := H
  (try dsimp only at H)
  have A5 := Aside0.mk A50
  clear A50
  replace H := Option.bind_eq_some_iff.mp H
  obtain ⟨⟨t556, t557, t558⟩, A60, H⟩ := H
  (try dsimp only at H)
  have A6 := Aside0.mk A60
  clear A60
  replace H := Option.bind_eq_some_iff.mp H
  obtain ⟨t562, A70, H⟩ := H
  (try dsimp only at H)
  have A7 := Aside0.mk A70
  clear A70
  by_cases c8 : t562 = true
  ·
   subst c8
   (try rw [if_pos rfl] at H)
   replace H := Option.bind_eq_some_iff.mp H
   obtain ⟨t563, A90, H⟩ := H
   (try dsimp only at H)
   have A9 := Aside0.mk A90
   clear A90
   replace H := Option.bind_eq_some_iff.mp H
   obtain ⟨t566, A100, H⟩ := H
   (try dsimp only at H)
   have A10 := Aside0.mk A100
   clear A100
   by_cases c11 : t566 = true
   ·
    subst c11
    (try rw [if_pos rfl] at H)
    replace H := Option.bind_eq_some_iff.mp H
    obtain ⟨⟨t567, t568⟩, A120, H⟩ := H
    (try dsimp only at H)
    have A12 := Aside0.mk A120
    clear A120
    have HC13 := Aside0.mk H
    clear H
    go_enter Try.func5, Try.ntmps5
    go_upto_region 12 with (first | ((with_reducible refine gate_callee (f := 18) rfl ?_); refine goesY_ (some 14) Try.func18 #[.slice A0 l0.length c0] rfl ?_; (with_reducible refine (laws_toByteS.calls k _ _ l0 t544 _ ?_ ?_ A3.out).mono ?_); exact C_up HR0.out; exact HC0.out; rintro e w14 ⟨v545, rfl, ho0, hb⟩; refine ⟨_, rfl, ?_⟩; have HO546 := Aside0.mk (Kd.R_lower ho0 (below_size hs_)); replace HB := Aside0.mk (below_step hs_ hb); (try clear hb); (try clear ho0); obtain ⟨Ao15, co15, eo15⟩ := Kd.R_slice HO546.out; subst eo15) | ((with_reducible refine gate_callee (f := 25) rfl ?_); refine goesY_ (some 15) Try.func25 #[.slice Ao15 t544.length co15] rfl ?_; (with_reducible refine (spec_ReadJournal.calls k _ _ t544 t547 t548 t549 _ ?_ ?_ A4.out).mono ?_); exact C_up (Kd.R_reads' HO546.out).2.2; exact (Kd.R_reads' HO546.out).2.1; rintro e w16 ⟨v550, rfl, ho0, hb⟩; refine ⟨_, rfl, ?_⟩; have n0_ := Aside0.mk (Kd.R_below (R_up HO546.out) hb); have n1_ := Aside0.mk (Kd.S_lower (Kd.S_new' ho0 (Kd.R_lt (R_up HO546.out))) (below_size hs_)); have n2_ := Aside0.mk (below_step hs_ hb); clear HO546; clear HB; have HO546 := n0_; have HO551 := n1_; have HB := n2_; clear n0_ n1_ n2_; (try clear hb); (try clear hb2); (try clear hk); (try clear hi); (try clear ho0)) | ((with_reducible refine gate_dst (N := 3) rfl ?_); refine box_event ?hg (N := 3) ?hd (cs := #[.int .i64 0, .int .i64 0, .slice none 0 0]) (t := 48) ?hr ?_; (case hd => rfl); (case hg => rfl); (case hr => first | (go_simp; done) | (go_simp; rfl)); intro gb552 hg w17 hbox hb; have n0_ := Aside0.mk (Kd.R_below (R_up HO546.out) hb); have n1_ := Aside0.mk (Kd.S_below (S_up HO551.out) hb); have n2_ := Aside0.mk (below_step hs_ hb); have n3_ := Aside0.mk (hbox); have n4_ := Aside0.mk ((by rw [hg]; exact (below_size hs_) : w.heap.size ≤ gb552)); have n5_ := Aside0.mk ((by rw [hg]; exact (below_size hs_) : w.heap.size ≤ gb552)); clear HO546; clear HO551; clear HB; have HO546 := n0_; have HO551 := n1_; have HB := n2_; have BK552 := n3_; have GW552 := n4_; have GE552 := n5_; clear n0_ n1_ n2_ n3_ n4_ n5_; clear hb hbox hg; have hcz18_0 : w17.cell? ⟨gb552, 0, none⟩ = some (.int .i64 0) := (blk_cell BK552.out 0).trans rfl; have hcz18_1 : w17.cell? ⟨gb552, 1, none⟩ = some (.int .i64 0) := (blk_cell BK552.out 1).trans rfl; have hcz18_2 : w17.cell? ⟨gb552, 2, none⟩ = some (.slice none 0 0) := (blk_cell BK552.out 2).trans rfl; have hfz18_0 := blk_frozen BK552.out 0; have hfz18_1 := blk_frozen BK552.out 1; have hfz18_2 := blk_frozen BK552.out 2; obtain ⟨Ao19, co19, eo19⟩ := Kd.S_slice HO551.out; subst eo19) | ((with_reducible refine gate_callee (f := 18) rfl ?_); refine goesY_ (some 17) Try.func18 #[.slice A0 l0.length c0] rfl ?_; (with_reducible refine (laws_toByteS.calls k _ _ l0 t553 _ ?_ ?_ A5.out).mono ?_); exact Kd.C_below HR0.out (hs_); exact HC0.out; rintro e w20 ⟨v554, rfl, ho0, hb⟩; refine ⟨_, rfl, ?_⟩; have n0_ := Aside0.mk (Kd.R_elder' (by (with_reducible repeat (first | apply Kd.R_alloc | apply Kd.R_drewN | apply Kd.R_drew)); exact (Kd.R_mono (Kd.R_far (p := ⟨gb552, 2, none⟩) (Kd.R_far (p := ⟨gb552, 1, none⟩) (Kd.R_far (p := ⟨gb552, 0, none⟩) (Kd.R_types HO546.out BK552.out (by decide)) (fun _ hk => hk.2) (.int .i64 t547)) (fun _ hk => hk.2) (.int .i64 t548)) (fun _ hk => hk.2) (.slice Ao19 t549.length co19)) (fun _ h_ => h_.1))) (Kd.R_base ho0) hb); have n1_ := Aside0.mk (Kd.S_elder' (by (with_reducible repeat (first | apply Kd.S_alloc | apply Kd.S_drewN | apply Kd.S_drew)); exact (Kd.S_mono (Kd.S_far (p := ⟨gb552, 2, none⟩) (Kd.S_far (p := ⟨gb552, 1, none⟩) (Kd.S_far (p := ⟨gb552, 0, none⟩) (Kd.S_types HO551.out BK552.out (by decide)) (fun _ hk => hk.2) (.int .i64 t547)) (fun _ hk => hk.2) (.int .i64 t548)) (fun _ hk => hk.2) (.slice Ao19 t549.length co19)) (fun _ h_ => h_.1))) (Kd.R_base ho0) hb); have n2_ := Aside0.mk (Kd.R_lower (Kd.R_new' ho0 (Kd.R_lt (by (with_reducible repeat (first | apply Kd.R_alloc | apply Kd.R_drewN | apply Kd.R_drew)); exact (Kd.R_mono (Kd.R_far (p := ⟨gb552, 2, none⟩) (Kd.R_far (p := ⟨gb552, 1, none⟩) (Kd.R_far (p := ⟨gb552, 0, none⟩) (Kd.R_types HO546.out BK552.out (by decide)) (fun _ hk => hk.2) (.int .i64 t547)) (fun _ hk => hk.2) (.int .i64 t548)) (fun _ hk => hk.2) (.slice Ao19 t549.length co19)) (fun _ h_ => h_.1))))) (below_size (hs_))); have n3_ := Aside0.mk (blk_below (g := gb552) (o := .cells #[.int .i64 t547, .int .i64 t548, .slice Ao19 t549.length co19] 48 (0, 0)) (by (with_reducible repeat (first | refine blk_drewN ?_ _ | refine blk_drew ?_ | refine blk_alloc ?_ _)); refine blk_put (cs := #[.int .i64 t547, .int .i64 t548, .slice none 0 0]) ?_ 2 _ rfl; (with_reducible repeat (first | refine blk_drewN ?_ _ | refine blk_drew ?_ | refine blk_alloc ?_ _)); refine blk_put (cs := #[.int .i64 t547, .int .i64 0, .slice none 0 0]) ?_ 1 _ rfl; (with_reducible repeat (first | refine blk_drewN ?_ _ | refine blk_drew ?_ | refine blk_alloc ?_ _)); refine blk_put (cs := #[.int .i64 0, .int .i64 0, .slice none 0 0]) ?_ 0 _ rfl; (with_reducible repeat (first | refine blk_drewN ?_ _ | refine blk_drew ?_ | refine blk_alloc ?_ _)); exact BK552.out) hb); have n4_ := Aside0.mk (below_step (hs_) hb); clear HO546; clear HO551; clear BK552; clear HB; have HO546 := n0_; have HO551 := n1_; have HO555 := n2_; have BK552 := n3_; have HB := n4_; clear n0_ n1_ n2_ n3_ n4_; (try clear hb); (try clear hb2); (try clear hk); (try clear hi); (try clear ho0); obtain ⟨Ao21, co21, eo21⟩ := Kd.R_slice HO555.out; subst eo21) | ((with_reducible refine gate_callee (f := 26) rfl ?_); refine goesY_ (some 19) Try.func26 #[.slice Ao21 t553.length co21] rfl ?_; (with_reducible refine (impl_ReadJournal.calls k _ _ t553 t556 t557 t558 _ ?_ ?_ A6.out).mono ?_); exact C_up (Kd.R_reads' HO555.out).2.2; exact (Kd.R_reads' HO555.out).2.1; rintro e w22 ⟨v559, rfl, ho0, hb⟩; refine ⟨_, rfl, ?_⟩; have n0_ := Aside0.mk (Kd.R_below (R_up HO546.out) hb); have n1_ := Aside0.mk (Kd.S_olden (S_up HO551.out) (Kd.S_base ho0) hb); have n2_ := Aside0.mk (Kd.R_below (R_up HO555.out) hb); have n3_ := Aside0.mk (Kd.S_lower (Kd.S_new' (Kd.S_new' (Kd.S_new' (Kd.S_young ho0) (Kd.R_lt (R_up HO546.out))) (Kd.S_lt (S_up HO551.out))) (Kd.R_lt (R_up HO555.out))) (below_size (hs_))); have n4_ := Aside0.mk (blk_below (g := gb552) (blk_up BK552.out) hb); have n5_ := Aside0.mk (below_step (hs_) hb); clear HO546; clear HO551; clear HO555; clear BK552; clear HB; have HO546 := n0_; have HO551 := n1_; have HO555 := n2_; have HO560 := n3_; have BK552 := n4_; have HB := n5_; clear n0_ n1_ n2_ n3_ n4_ n5_; (try clear hb); (try clear hb2); (try clear hk); (try clear hi); (try clear ho0)) | ((with_reducible refine gate_dst (N := 5) rfl ?_); refine box_event ?hg (N := 5) ?hd (cs := #[.int .i64 0, .int .i64 0, .slice none 0 0]) (t := 48) ?hr ?_; (case hd => rfl); (case hg => rfl); (case hr => first | (go_simp; done) | (go_simp; rfl)); intro gb561 hg w23 hbox hb; have n0_ := Aside0.mk (Kd.R_below (R_up HO546.out) hb); have n1_ := Aside0.mk (Kd.S_below (S_up HO551.out) hb); have n2_ := Aside0.mk (Kd.R_below (R_up HO555.out) hb); have n3_ := Aside0.mk (Kd.S_below (S_up HO560.out) hb); have n4_ := Aside0.mk (blk_below (g := gb552) (blk_up BK552.out) hb); have n5_ := Aside0.mk (below_step (hs_) hb); have n6_ := Aside0.mk (hbox); have n7_ := Aside0.mk ((by rw [hg]; exact (below_size (hs_)) : w.heap.size ≤ gb561)); have n8_ := Aside0.mk ((by rw [hg]; exact (below_size (hs_)) : w.heap.size ≤ gb561)); have n9_ := Aside0.mk ((by rw [hg]; exact Nat.ne_of_lt (blk_lt (g := gb552) (blk_up BK552.out)) : gb552 ≠ gb561)); have n10_ := Aside0.mk ((by rw [hg]; exact Nat.ne_of_gt (blk_lt (g := gb552) (blk_up BK552.out)) : gb561 ≠ gb552)); clear HO546; clear HO551; clear HO555; clear HO560; clear BK552; clear HB; have HO546 := n0_; have HO551 := n1_; have HO555 := n2_; have HO560 := n3_; have BK552 := n4_; have HB := n5_; have BK561 := n6_; have GW561 := n7_; have GE561 := n8_; have NB552_561 := n9_; have NB561_552 := n10_; clear n0_ n1_ n2_ n3_ n4_ n5_ n6_ n7_ n8_ n9_ n10_; clear hb hbox hg; have hnb24 := NB561_552.out; have hnc24 := NB552_561.out; have hcz25_0 : w23.cell? ⟨gb561, 0, none⟩ = some (.int .i64 0) := (blk_cell BK561.out 0).trans rfl; have hcz25_1 : w23.cell? ⟨gb561, 1, none⟩ = some (.int .i64 0) := (blk_cell BK561.out 1).trans rfl; have hcz25_2 : w23.cell? ⟨gb561, 2, none⟩ = some (.slice none 0 0) := (blk_cell BK561.out 2).trans rfl; have hfz25_0 := blk_frozen BK561.out 0; have hfz25_1 := blk_frozen BK561.out 1; have hfz25_2 := blk_frozen BK561.out 2; obtain ⟨Ao26, co26, eo26⟩ := Kd.S_slice HO560.out; subst eo26; have hcz27_0 : w23.cell? ⟨gb552, 0, none⟩ = some (.int .i64 t547) := (blk_cell BK552.out 0).trans rfl; have hcz27_1 : w23.cell? ⟨gb552, 1, none⟩ = some (.int .i64 t548) := (blk_cell BK552.out 1).trans rfl; have hcz27_2 : w23.cell? ⟨gb552, 2, none⟩ = some (.slice Ao19 t549.length co19) := (blk_cell BK552.out 2).trans rfl; have hfz27_0 := blk_frozen BK552.out 0; have hfz27_1 := blk_frozen BK552.out 1; have hfz27_2 := blk_frozen BK552.out 2) | ((with_reducible refine gate_callee (f := 27) rfl ?_); refine goesY_ (some 22) Try.func27 #[.agg #[.int .i64 t556, .int .i64 t557, .slice Ao26 t558.length co26], .agg #[.int .i64 t547, .int .i64 t548, .slice Ao19 t549.length co19]] rfl ?_; (with_reducible refine (laws_eqOpsResult.calls k t556 t557 _ _ t558 t547 t548 _ _ t549 true _ ?side1 ?side2 ?side3 ?side4 A7.out).mono ?_); (case side1 => refine (Kd.S_reads' (e := 37) (base := w.heap.size) (ok := fun k_ => ((((True ∧ k_ ≠ (if w20.heap.size ≤ k_ then k_ + 1 else k_)) ∧ some k_ ≠ (.slice Ao15 t544.length co15 : Value).ownBlock) ∧ some k_ ≠ (.slice Ao19 t549.length co19 : Value).ownBlock) ∧ some k_ ≠ (.slice Ao21 t553.length co21 : Value).ownBlock)) (n := t558.length) (c := co26) ?_).2.2; exact (by (with_reducible repeat (first | apply Kd.S_alloc | apply Kd.S_drewN | apply Kd.S_drew)); exact (Kd.S_mono (Kd.S_far (p := ⟨gb561, 2, none⟩) (Kd.S_far (p := ⟨gb561, 1, none⟩) (Kd.S_far (p := ⟨gb561, 0, none⟩) (Kd.S_types HO560.out BK561.out (by decide)) (fun _ hk => hk.2) (.int .i64 t556)) (fun _ hk => hk.2) (.int .i64 t557)) (fun _ hk => hk.2) (.slice Ao26 t558.length co26)) (fun _ h_ => h_.1)))); (case side2 => exact (Kd.S_reads' HO560.out).2.1); (case side3 => refine (Kd.S_reads' (e := 37) (base := w.heap.size) (ok := fun k_ => ((((True ∧ some k_ ≠ (.slice Ao15 t544.length co15 : Value).ownBlock) ∧ some k_ ≠ (.slice Ao21 t553.length co21 : Value).ownBlock) ∧ some k_ ≠ (.slice Ao26 t558.length co26 : Value).ownBlock) ∧ k_ ≠ (if w20.heap.size ≤ k_ then k_ else k_ + 1))) (n := t549.length) (c := co19) ?_).2.2; exact (by (with_reducible repeat (first | apply Kd.S_alloc | apply Kd.S_drewN | apply Kd.S_drew)); exact (Kd.S_mono (Kd.S_far (p := ⟨gb561, 2, none⟩) (Kd.S_far (p := ⟨gb561, 1, none⟩) (Kd.S_far (p := ⟨gb561, 0, none⟩) (Kd.S_types HO551.out BK561.out (by decide)) (fun _ hk => hk.2) (.int .i64 t556)) (fun _ hk => hk.2) (.int .i64 t557)) (fun _ hk => hk.2) (.slice Ao26 t558.length co26)) (fun _ h_ => h_.1)))); (case side4 => exact (Kd.S_reads' HO551.out).2.1); rintro e w28 ⟨rfl, hb⟩; refine ⟨_, rfl, ?_⟩; replace HO546 := Aside0.mk (Kd.R_below (by (with_reducible repeat (first | apply Kd.R_alloc | apply Kd.R_drewN | apply Kd.R_drew)); exact (Kd.R_mono (Kd.R_far (p := ⟨gb561, 2, none⟩) (Kd.R_far (p := ⟨gb561, 1, none⟩) (Kd.R_far (p := ⟨gb561, 0, none⟩) (Kd.R_types HO546.out BK561.out (by decide)) (fun _ hk => hk.2) (.int .i64 t556)) (fun _ hk => hk.2) (.int .i64 t557)) (fun _ hk => hk.2) (.slice Ao26 t558.length co26)) (fun _ h_ => h_.1))) hb); replace HO551 := Aside0.mk (Kd.S_below (by (with_reducible repeat (first | apply Kd.S_alloc | apply Kd.S_drewN | apply Kd.S_drew)); exact (Kd.S_mono (Kd.S_far (p := ⟨gb561, 2, none⟩) (Kd.S_far (p := ⟨gb561, 1, none⟩) (Kd.S_far (p := ⟨gb561, 0, none⟩) (Kd.S_types HO551.out BK561.out (by decide)) (fun _ hk => hk.2) (.int .i64 t556)) (fun _ hk => hk.2) (.int .i64 t557)) (fun _ hk => hk.2) (.slice Ao26 t558.length co26)) (fun _ h_ => h_.1))) hb); replace HO555 := Aside0.mk (Kd.R_below (by (with_reducible repeat (first | apply Kd.R_alloc | apply Kd.R_drewN | apply Kd.R_drew)); exact (Kd.R_mono (Kd.R_far (p := ⟨gb561, 2, none⟩) (Kd.R_far (p := ⟨gb561, 1, none⟩) (Kd.R_far (p := ⟨gb561, 0, none⟩) (Kd.R_types HO555.out BK561.out (by decide)) (fun _ hk => hk.2) (.int .i64 t556)) (fun _ hk => hk.2) (.int .i64 t557)) (fun _ hk => hk.2) (.slice Ao26 t558.length co26)) (fun _ h_ => h_.1))) hb); replace HO560 := Aside0.mk (Kd.S_below (by (with_reducible repeat (first | apply Kd.S_alloc | apply Kd.S_drewN | apply Kd.S_drew)); exact (Kd.S_mono (Kd.S_far (p := ⟨gb561, 2, none⟩) (Kd.S_far (p := ⟨gb561, 1, none⟩) (Kd.S_far (p := ⟨gb561, 0, none⟩) (Kd.S_types HO560.out BK561.out (by decide)) (fun _ hk => hk.2) (.int .i64 t556)) (fun _ hk => hk.2) (.int .i64 t557)) (fun _ hk => hk.2) (.slice Ao26 t558.length co26)) (fun _ h_ => h_.1))) hb); replace BK552 := Aside0.mk (blk_below (g := gb552) (o := .cells #[.int .i64 t547, .int .i64 t548, .slice Ao19 t549.length co19] 48 (0, 0)) (by (with_reducible repeat (first | refine blk_drewN ?_ _ | refine blk_drew ?_ | refine blk_alloc ?_ _)); refine blk_far ?_ NB552_561.out _; (with_reducible repeat (first | refine blk_drewN ?_ _ | refine blk_drew ?_ | refine blk_alloc ?_ _)); refine blk_far ?_ NB552_561.out _; (with_reducible repeat (first | refine blk_drewN ?_ _ | refine blk_drew ?_ | refine blk_alloc ?_ _)); refine blk_far ?_ NB552_561.out _; (with_reducible repeat (first | refine blk_drewN ?_ _ | refine blk_drew ?_ | refine blk_alloc ?_ _)); exact BK552.out) hb); replace BK561 := Aside0.mk (blk_below (g := gb561) (o := .cells #[.int .i64 t556, .int .i64 t557, .slice Ao26 t558.length co26] 48 (0, 0)) (by (with_reducible repeat (first | refine blk_drewN ?_ _ | refine blk_drew ?_ | refine blk_alloc ?_ _)); refine blk_put (cs := #[.int .i64 t556, .int .i64 t557, .slice none 0 0]) ?_ 2 _ rfl; (with_reducible repeat (first | refine blk_drewN ?_ _ | refine blk_drew ?_ | refine blk_alloc ?_ _)); refine blk_put (cs := #[.int .i64 t556, .int .i64 0, .slice none 0 0]) ?_ 1 _ rfl; (with_reducible repeat (first | refine blk_drewN ?_ _ | refine blk_drew ?_ | refine blk_alloc ?_ _)); refine blk_put (cs := #[.int .i64 0, .int .i64 0, .slice none 0 0]) ?_ 0 _ rfl; (with_reducible repeat (first | refine blk_drewN ?_ _ | refine blk_drew ?_ | refine blk_alloc ?_ _)); exact BK561.out) hb); replace HB := Aside0.mk (below_step (hs_) hb); (try clear hb)) | ((with_reducible refine gate_callee (f := 18) rfl ?_); refine goesY_ (some 26) Try.func18 #[.slice A0 l0.length c0] rfl ?_; (with_reducible refine (laws_toByteS.calls k _ _ l0 t563 _ ?_ ?_ A9.out).mono ?_); exact C_up (Kd.C_below HR0.out HB.out); exact HC0.out; rintro e w29 ⟨v564, rfl, ho0, hb⟩; refine ⟨_, rfl, ?_⟩; have n0_ := Aside0.mk (Kd.R_elder' (R_up HO546.out) (Kd.R_base ho0) hb); have n1_ := Aside0.mk (Kd.S_elder' (S_up HO551.out) (Kd.R_base ho0) hb); have n2_ := Aside0.mk (Kd.R_elder' (R_up HO555.out) (Kd.R_base ho0) hb); have n3_ := Aside0.mk (Kd.S_elder' (S_up HO560.out) (Kd.R_base ho0) hb); have n4_ := Aside0.mk (Kd.R_lower (Kd.R_new' (Kd.R_new' ho0 (Kd.R_lt (R_up HO546.out))) (Kd.R_lt (R_up HO555.out))) (below_size (hs_))); have n5_ := Aside0.mk (blk_below (g := gb552) (blk_up BK552.out) hb); have n6_ := Aside0.mk (blk_below (g := gb561) (blk_up BK561.out) hb); have n7_ := Aside0.mk (below_step (hs_) hb); clear HO546; clear HO551; clear HO555; clear HO560; clear BK552; clear BK561; clear HB; have HO546 := n0_; have HO551 := n1_; have HO555 := n2_; have HO560 := n3_; have HO565 := n4_; have BK552 := n5_; have BK561 := n6_; have HB := n7_; clear n0_ n1_ n2_ n3_ n4_ n5_ n6_ n7_; (try clear hb); (try clear hb2); (try clear hk); (try clear hi); (try clear ho0); obtain ⟨Ao30, co30, eo30⟩ := Kd.R_slice HO565.out; subst eo30) | ((with_reducible refine gate_callee (f := 21) rfl ?_); refine goesY_ (some 27) Try.func21 #[.slice Ao21 t553.length co21, .slice Ao30 t563.length co30] rfl ?_; (with_reducible refine (laws_eqByteS.calls k _ _ t553 _ _ t563 true _ ?_ ?_ ?_ ?_ A10.out).mono ?_); exact C_up (Kd.R_reads' HO555.out).2.2; exact (Kd.R_reads' HO555.out).2.1; exact C_up (Kd.R_reads' HO565.out).2.2; exact (Kd.R_reads' HO565.out).2.1; rintro e w' ⟨rfl, ⟨nd, rfl⟩⟩; refine ⟨_, rfl, ?_⟩) | ((with_reducible refine gate_callee (f := 22) rfl ?_); refine goesY_ (some 31) Try.func22 #[.slice Ao21 t553.length co21, .int .i64 1] rfl ?_; (with_reducible refine (laws_markByteS.calls k (fun k_ => some k_ = (.slice Ao21 t553.length co21 : Value).ownBlock) (.slice Ao21 t553.length co21) t553 1 t567 t568 w _ ?side1 ?side2 A12.out).mono ?_); (case side1 => repeat (first | (with_reducible first | exact HB.out | apply below_alloc | apply pw_below_drewN | apply below_drew1 | refine below_set ?_ GE552.out | refine below_set ?_ GE561.out) | exact HB.out)); (case side2 => exact Kd.R_tight rfl HO555.out); rintro e w31 ⟨rfl, hy0, hb, hkp⟩; refine ⟨_, rfl, ?_⟩; have n0_ := Aside0.mk (Kd.R_mono (ok' := fun k_ => some k_ ≠ (.slice Ao21 t553.length co21 : Value).ownBlock ∧ some k_ ≠ (.slice Ao30 t563.length co30 : Value).ownBlock) (Kd.R_keptB (HO546.out) hkp (fun k_ hk_ hs_ => (hk_.1.2) hs_)) (fun k_ hk_ => ⟨hk_.1.1.2, hk_.1.2⟩)); have n1_ := Aside0.mk (Kd.S_mono (ok' := fun k_ => some k_ ≠ (.slice Ao15 t544.length co15 : Value).ownBlock ∧ some k_ ≠ (.slice Ao21 t553.length co21 : Value).ownBlock ∧ some k_ ≠ (.slice Ao26 t558.length co26 : Value).ownBlock ∧ some k_ ≠ (.slice Ao30 t563.length co30 : Value).ownBlock ∧ k_ ≠ (if w20.heap.size ≤ k_ then k_ else k_ + 1)) (Kd.S_keptB (HO551.out) hkp (fun k_ hk_ hs_ => (hk_.1.1.1.2) hs_)) (fun k_ hk_ => ⟨hk_.1.1.1.1.1.2, hk_.1.1.1.1.2, hk_.1.1.1.2, hk_.1.2, hk_.1.1.2⟩)); have n2_ := Aside0.mk (blk_kept (blk_up BK552.out) hkp (fun hs_ => (fun e_ => (Kd.R_ne HO555.out BK552.out (by decide)) e_) hs_)); have n3_ := Aside0.mk (Kd.R_reok rfl hy0 (fun k_ e_ => HO555.out.1 k_ e_)); have n4_ := Aside0.mk (Kd.S_mono (ok' := fun k_ => some k_ ≠ (.slice Ao15 t544.length co15 : Value).ownBlock ∧ some k_ ≠ (.slice Ao19 t549.length co19 : Value).ownBlock ∧ some k_ ≠ (.slice Ao21 t553.length co21 : Value).ownBlock ∧ some k_ ≠ (.slice Ao30 t563.length co30 : Value).ownBlock ∧ k_ ≠ (if w20.heap.size ≤ k_ then k_ + 1 else k_)) (Kd.S_keptB (HO560.out) hkp (fun k_ hk_ hs_ => (hk_.1.2) hs_)) (fun k_ hk_ => ⟨hk_.1.1.1.1.2, hk_.1.1.1.2, hk_.1.1.2, hk_.1.2, hk_.1.1.1.1.1.2⟩)); have n5_ := Aside0.mk (blk_kept (blk_up BK561.out) hkp (fun hs_ => (fun e_ => (Kd.R_ne HO555.out BK561.out (by decide)) e_) hs_)); have n6_ := Aside0.mk (Kd.R_mono (ok' := fun k_ => some k_ ≠ (.slice Ao15 t544.length co15 : Value).ownBlock ∧ some k_ ≠ (.slice Ao21 t553.length co21 : Value).ownBlock) (Kd.R_keptB (HO565.out) hkp (fun k_ hk_ hs_ => (hk_.2) hs_)) (fun k_ hk_ => ⟨hk_.1.1.2, hk_.1.2⟩)); have n7_ := Aside0.mk (hb); clear HO546; clear HO551; clear BK552; clear HO555; clear HO560; clear BK561; clear HO565; clear HB; have HO546 := n0_; have HO551 := n1_; have BK552 := n2_; have HO555 := n3_; have HO560 := n4_; have BK561 := n5_; have HO565 := n6_; have HB := n7_; clear n0_ n1_ n2_ n3_ n4_ n5_ n6_ n7_; (try clear hb); (try clear hkp); (try clear hy0)))
    (try simp only [Act.put, List.setIfInBounds_toArray, List.set_cons_zero, List.set_cons_succ])
    go_cut [39] (fun v39 wc => ∃ (kq : Nat) (x39_12 : Bool), v39 = .bool x39_12 ∧ Aside0 (laws_FnExactReadJournal.j0 kq l0 x39_12 t547 t548 t549 t556 t557 t558 = some r) ∧ Aside0 (kq ≤ k) ∧ Aside0 (Kd.S k37 37 wc w.heap.size (fun k_ => some k_ ≠ ((.slice Ao26 t558.length co26) : Value).ownBlock ∧ k_ ≠ (if w20.heap.size ≤ k_ then k_ else k_ + 1)) (.slice Ao19 t549.length co19) t549) ∧ Aside0 (Kd.S k37 37 wc w.heap.size (fun k_ => some k_ ≠ ((.slice Ao19 t549.length co19) : Value).ownBlock ∧ k_ ≠ (if w20.heap.size ≤ k_ then k_ + 1 else k_)) (.slice Ao26 t558.length co26) t558) ∧ Aside0 (wc.heap[gb552]? = some (.cells #[.int .i64 t547, .int .i64 t548, (.slice Ao19 t549.length co19)] 48 (0, 0))) ∧ Aside0 (wc.heap[gb561]? = some (.cells #[.int .i64 t556, .int .i64 t557, (.slice Ao26 t558.length co26)] 48 (0, 0))) ∧ Aside0 (Below w.heap.size w wc))
    case first =>
     have H := HC13.out
     clear HC13
     by_cases c32 : t567 < 0
     ·
      rw [if_pos c32] at H
      have c32b0 : decide (t567 < 0) = true := decide_eq_true c32
      clear c32
      (first | rw [c32b0] | (simp only [i64_w, i32_w]; rw [c32b0]) | skip)
      have H' := Aside0.mk H
      clear H
      go_wp2
      go_meet
      case rel => exact ⟨_, (true), vl_, H', ⟨le_⟩, ⟨by (with_reducible repeat (first | apply Kd.S_alloc | apply Kd.S_drewN | apply Kd.S_drew)); exact Kd.S_mono HO551.out (fun _ hk => ⟨hk.2.2.1, hk.2.2.2.2⟩)⟩, ⟨by (with_reducible repeat (first | apply Kd.S_alloc | apply Kd.S_drewN | apply Kd.S_drew)); exact Kd.S_mono HO560.out (fun _ hk => ⟨hk.2.1, hk.2.2.2.2⟩)⟩, ⟨blk_up BK552.out⟩, ⟨blk_up BK561.out⟩, ⟨hs_⟩⟩
     ·
      rw [if_neg c32] at H
      have c32b0 : decide (t567 < 0) = false := decide_eq_false c32
      clear c32
      (first | rw [c32b0] | (simp only [i64_w, i32_w]; rw [c32b0]) | skip)
      replace H := Option.bind_eq_some_iff.mp H
      obtain ⟨t569, A330, H⟩ := H
      (try dsimp only at H)
      have A33 := Aside0.mk A330
      clear A330
      have H' := Aside0.mk H
      clear H
      have hnb34 := NB561_552.out
      have hnc34 := NB552_561.out
      have hcz35_0 : w31.cell? ⟨gb561, 0, none⟩ = some (.int .i64 t556) := (blk_cell BK561.out 0).trans rfl
      have hcz35_1 : w31.cell? ⟨gb561, 1, none⟩ = some (.int .i64 t557) := (blk_cell BK561.out 1).trans rfl
      have hcz35_2 : w31.cell? ⟨gb561, 2, none⟩ = some (.slice Ao26 t558.length co26) := (blk_cell BK561.out 2).trans rfl
      have hfz35_0 := blk_frozen BK561.out 0
      have hfz35_1 := blk_frozen BK561.out 1
      have hfz35_2 := blk_frozen BK561.out 2
      have hcz36_0 : w31.cell? ⟨gb552, 0, none⟩ = some (.int .i64 t547) := (blk_cell BK552.out 0).trans rfl
      have hcz36_1 : w31.cell? ⟨gb552, 1, none⟩ = some (.int .i64 t548) := (blk_cell BK552.out 1).trans rfl
      have hcz36_2 : w31.cell? ⟨gb552, 2, none⟩ = some (.slice Ao19 t549.length co19) := (blk_cell BK552.out 2).trans rfl
      have hfz36_0 := blk_frozen BK552.out 0
      have hfz36_1 := blk_frozen BK552.out 1
      have hfz36_2 := blk_frozen BK552.out 2
      go_wp2_with (first | (go_at_call 27; (with_reducible refine (laws_eqOpsResult.calls k t556 t557 _ _ t558 t547 t548 _ _ t549 t569 _ ?_ ?_ ?_ ?_ A33.out).mono ?_); exact C_up (Kd.S_reads' HO560.out).2.2; exact (Kd.S_reads' HO560.out).2.1; exact C_up (Kd.S_reads' HO551.out).2.2; exact (Kd.S_reads' HO551.out).2.1; rintro e w37 ⟨rfl, hb⟩; replace HO546 := Aside0.mk (Kd.R_below (R_up HO546.out) hb); replace HO551 := Aside0.mk (Kd.S_below (S_up HO551.out) hb); replace HO555 := Aside0.mk (Kd.R_below (R_up HO555.out) hb); replace HO560 := Aside0.mk (Kd.S_below (S_up HO560.out) hb); replace HO565 := Aside0.mk (Kd.R_below (R_up HO565.out) hb); replace BK552 := Aside0.mk (blk_below (g := gb552) (blk_up BK552.out) hb); replace BK561 := Aside0.mk (blk_below (g := gb561) (blk_up BK561.out) hb); replace HB := Aside0.mk (below_step (hs_) hb); (try clear hb)))
      go_meet
      case rel => exact ⟨_, (!t569), vl_, H', ⟨le_⟩, ⟨by (with_reducible repeat (first | apply Kd.S_alloc | apply Kd.S_drewN | apply Kd.S_drew)); exact Kd.S_mono HO551.out (fun _ hk => ⟨hk.2.2.1, hk.2.2.2.2⟩)⟩, ⟨by (with_reducible repeat (first | apply Kd.S_alloc | apply Kd.S_drewN | apply Kd.S_drew)); exact Kd.S_mono HO560.out (fun _ hk => ⟨hk.2.1, hk.2.2.2.2⟩)⟩, ⟨blk_up BK552.out⟩, ⟨blk_up BK561.out⟩, ⟨hs_⟩⟩
    case rest =>
     clear HC13
     try clear c2
     try clear c2b0
     try clear c2b1
     try clear c8
     try clear c11
     try clear hcz18_0
     try clear hcz18_1
     try clear hcz18_2
     try clear hcz25_0
     try clear hcz25_1
     try clear hcz25_2
     try clear hcz27_0
     try clear hcz27_1
     try clear hcz27_2
     try clear hfz18_0
     try clear hfz18_1
     try clear hfz18_2
     try clear hfz25_0
     try clear hfz25_1
     try clear hfz25_2
     try clear hfz27_0
     try clear hfz27_1
     try clear hfz27_2
     obtain ⟨kq, x39_12, rfl, HA, HJ12, HO_553002, HO_562002, BK552, BK561, HB⟩ := hcut
     cases kq with
     | zero => exact absurd HA.out (by simp [laws_FnExactReadJournal.j0])
     | succ kj12 =>
       have H := HA.out
       clear HA
       simp only [laws_FnExactReadJournal.j0] at H
       by_cases c38 : x39_12 = true
       · subst c38
         (try rw [if_pos rfl] at H)
         exact absurd H (by simp)
       ·
        replace c38 := Bool.eq_false_iff.mpr c38
        subst c38
        (try rw [if_neg (show ¬ (false = true) by decide)] at H)
        replace H := Option.bind_eq_some_iff.mp H
        obtain ⟨⟨t570, t571⟩, A390, H⟩ := H
        (try dsimp only at H)
        have A39 := Aside0.mk A390
        clear A390
        replace H := Option.bind_eq_some_iff.mp H
        obtain ⟨t572, A400, H⟩ := H
        (try dsimp only at H)
        have A40 := Aside0.mk A400
        clear A400
        by_cases c41 : t572 < 0
        · rw [if_pos c41] at H
          exact absurd H (by simp)
        ·
         rw [if_neg c41] at H
         have c41b0 : decide (t572 < 0) = false := decide_eq_false c41
         clear c41
         by_cases c42 : t572 = t570
         case neg => rw [if_neg c42] at H; exact absurd H (by simp)
         rw [if_pos c42] at H
         have c42b0 : (t572 == t570) = true := beq_iff_eq.mpr c42
         have c42b1 : (t572 != t570) = false := bne_eq_false_iff_eq.mpr c42
         clear c42
         replace H := Option.bind_eq_some_iff.mp H
         obtain ⟨t573, A430, H⟩ := H
         (try dsimp only at H)
         have A43 := Aside0.mk A430
         clear A430
         replace H := Option.bind_eq_some_iff.mp H
         obtain ⟨⟨t576, t577, t578⟩, A440, H⟩ := H
         (try dsimp only at H)
         have A44 := Aside0.mk A440
         clear A440
         replace H := Option.bind_eq_some_iff.mp H
         obtain ⟨t582, A450, H⟩ := H
         (try dsimp only at H)
         have A45 := Aside0.mk A450
         clear A450
         by_cases c46 : t582 = true
         ·
          subst c46
          (try rw [if_pos rfl] at H)
          replace H := Option.bind_eq_some_iff.mp H
          obtain ⟨t583, A470, H⟩ := H
          (try dsimp only at H)
          have A47 := Aside0.mk A470
          clear A470
          by_cases c48 : t583 < 0
          · rw [if_pos c48] at H
            exact absurd H (by simp)
          ·
           rw [if_neg c48] at H
           have c48b0 : decide (t583 < 0) = false := decide_eq_false c48
           clear c48
           by_cases c49 : t583 = t570
           case neg => rw [if_neg c49] at H; exact absurd H (by simp)
           rw [if_pos c49] at H
           have c49b0 : (t583 == t570) = true := beq_iff_eq.mpr c49
           have c49b1 : (t583 != t570) = false := bne_eq_false_iff_eq.mpr c49
           clear c49
           obtain rfl := Option.some.inj H
           have hnb50 := NB561_552.out
           have hnc50 := NB552_561.out
           have hcz51_0 : wc.cell? ⟨gb561, 0, none⟩ = some (.int .i64 t556) := (blk_cell BK561.out 0).trans rfl
           have hcz51_1 : wc.cell? ⟨gb561, 1, none⟩ = some (.int .i64 t557) := (blk_cell BK561.out 1).trans rfl
           have hcz51_2 : wc.cell? ⟨gb561, 2, none⟩ = some (.slice Ao26 t558.length co26) := (blk_cell BK561.out 2).trans rfl
           have hfz51_0 := blk_frozen BK561.out 0
           have hfz51_1 := blk_frozen BK561.out 1
           have hfz51_2 := blk_frozen BK561.out 2
           go_wp2_with (first | ((with_reducible refine gate_callee (f := 28) rfl ?_); refine goesY_ (some 42) Try.func28 #[.agg #[.int .i64 t556, .int .i64 t557, .slice Ao26 t558.length co26], .int .i64 1] rfl ?_; (with_reducible refine (laws_markOpsResult.calls kj12 t556 t557 (fun k_ => (((some k_ ≠ (.slice Ao19 t549.length co19 : Value).ownBlock ∧ k_ ≠ (if w20.heap.size ≤ k_ then k_ + 1 else k_)) ∧ k_ ≠ gb552) ∧ k_ ≠ gb561)) (.slice Ao26 t558.length co26) t558 1 t570 t571 w _ ?side1 ?side2 A39.out).mono ?_); (case side1 => repeat (first | (with_reducible first | exact HB.out | apply below_alloc | apply pw_below_drewN | apply below_drew1 | refine below_set ?_ GE552.out | refine below_set ?_ GE561.out) | exact HB.out)); (case side2 => exact (Kd.S_types (Kd.S_types HO_562002.out (g := gb552) (blk_up BK552.out) (by decide)) (g := gb561) (blk_up BK561.out) (by decide))); rintro e w52 ⟨rfl, hy0, hb, hkp⟩; refine ⟨_, rfl, ?_⟩; replace HO_553002 := Aside0.mk (Kd.S_kept (HO_553002.out) hkp (fun k_ hk_ hs_ => old_young (hk_.2) (hs_.1.1.2))); replace HO_562002 := Aside0.mk (Kd.S_mono hy0 (fun _ h_ => h_.1.1)); replace BK552 := Aside0.mk (blk_kept (blk_up BK552.out) hkp (fun hs_ => (fun e_ => (e_.1.2) rfl) hs_)); replace BK561 := Aside0.mk (blk_kept (blk_up BK561.out) hkp (fun hs_ => (fun e_ => (e_.2) rfl) hs_)); replace HB := Aside0.mk (hb); (try clear hb); (try clear hkp); (try clear hy0); have hcz53_0 : w52.cell? ⟨gb561, 0, none⟩ = some (.int .i64 t556) := (blk_cell BK561.out 0).trans rfl; have hcz53_1 : w52.cell? ⟨gb561, 1, none⟩ = some (.int .i64 t557) := (blk_cell BK561.out 1).trans rfl; have hcz53_2 : w52.cell? ⟨gb561, 2, none⟩ = some (.slice Ao26 t558.length co26) := (blk_cell BK561.out 2).trans rfl; have hfz53_0 := blk_frozen BK561.out 0; have hfz53_1 := blk_frozen BK561.out 1; have hfz53_2 := blk_frozen BK561.out 2) | ((with_reducible refine gate_callee (f := 29) rfl ?_); refine goesL_ (some 45) rfl rfl Try.func29 (by kernel_rfl) rfl #[.agg #[.int .i64 t556, .int .i64 t557, .slice Ao26 t571.length co26], .int .i64 1] rfl (by (try simp only [List.map_toArray, List.map_cons, List.map_nil]); first | done | (rw [show t571.length = t558.length from (Kd.S_reads' HO_562002.out).1.symm] <;> rfl) | rfl | (simp only [List.length_drop, List.length_take]; rfl)) ?_; (with_reducible refine (laws_heldOpsResult.calls kj12 t556 t557 _ _ t571 1 t572 _ ?side1 ?side2 A40.out).mono ?_); (case side1 => exact C_up (Kd.S_reads' HO_562002.out).2.2); (case side2 => rw [show t571.length = t558.length from (Kd.S_reads' HO_562002.out).1.symm]; exact (Kd.S_reads' HO_562002.out).2.1); rintro e w54 ⟨rfl, hb⟩; refine ⟨_, rfl, ?_⟩; replace HO_553002 := Aside0.mk (Kd.S_below (S_up HO_553002.out) hb); replace HO_562002 := Aside0.mk (Kd.S_below (S_up HO_562002.out) hb); replace BK552 := Aside0.mk (blk_below (g := gb552) (blk_up BK552.out) hb); replace BK561 := Aside0.mk (blk_below (g := gb561) (blk_up BK561.out) hb); replace HB := Aside0.mk (below_step (hs_) hb); (try clear hb)) | ((with_reducible refine gate_callee (f := 18) rfl ?_); refine goesY_ (some 52) Try.func18 #[.slice A0 l0.length c0] rfl ?_; (with_reducible refine (laws_toByteS.calls kj12 _ _ l0 t573 _ ?_ ?_ A43.out).mono ?_); exact C_up (Kd.C_below HR0.out HB.out); exact HC0.out; rintro e w55 ⟨v574, rfl, ho0, hb⟩; refine ⟨_, rfl, ?_⟩; replace HO_553002 := Aside0.mk (Kd.S_elder' (S_up HO_553002.out) (Kd.R_base ho0) hb); replace HO_562002 := Aside0.mk (Kd.S_elder' (S_up HO_562002.out) (Kd.R_base ho0) hb); have HO575 := Aside0.mk (Kd.R_lower ho0 (below_size (hs_))); replace BK552 := Aside0.mk (blk_below (g := gb552) (blk_up BK552.out) hb); replace BK561 := Aside0.mk (blk_below (g := gb561) (blk_up BK561.out) hb); replace HB := Aside0.mk (below_step (hs_) hb); (try clear hb); (try clear ho0); obtain ⟨Ao56, co56, eo56⟩ := Kd.R_slice HO575.out; subst eo56) | ((with_reducible refine gate_callee (f := 26) rfl ?_); refine goesY_ (some 53) Try.func26 #[.slice Ao56 t573.length co56] rfl ?_; (with_reducible refine (impl_ReadJournal.calls kj12 _ _ t573 t576 t577 t578 _ ?_ ?_ A44.out).mono ?_); exact C_up (Kd.R_reads' HO575.out).2.2; exact (Kd.R_reads' HO575.out).2.1; rintro e w57 ⟨v579, rfl, ho0, hb⟩; refine ⟨_, rfl, ?_⟩; have n0_ := Aside0.mk (Kd.S_olden (S_up HO_553002.out) (Kd.S_base ho0) hb); have n1_ := Aside0.mk (Kd.S_olden (S_up HO_562002.out) (Kd.S_base ho0) hb); have n2_ := Aside0.mk (Kd.R_below (R_up HO575.out) hb); have n3_ := Aside0.mk (Kd.S_lower (Kd.S_new' (Kd.S_new' (Kd.S_new' (Kd.S_young ho0) (Kd.S_lt (S_up HO_553002.out))) (Kd.S_lt (S_up HO_562002.out))) (Kd.R_lt (R_up HO575.out))) (below_size (hs_))); have n4_ := Aside0.mk (blk_below (g := gb552) (blk_up BK552.out) hb); have n5_ := Aside0.mk (blk_below (g := gb561) (blk_up BK561.out) hb); have n6_ := Aside0.mk (below_step (hs_) hb); clear HO_553002; clear HO_562002; clear HO575; clear BK552; clear BK561; clear HB; have HO_553002 := n0_; have HO_562002 := n1_; have HO575 := n2_; have HO580 := n3_; have BK552 := n4_; have BK561 := n5_; have HB := n6_; clear n0_ n1_ n2_ n3_ n4_ n5_ n6_; (try clear hb); (try clear hb2); (try clear hk); (try clear hi); (try clear ho0)) | ((with_reducible refine gate_dst (N := 9) rfl ?_); refine box_event ?hg (N := 9) ?hd (cs := #[.int .i64 0, .int .i64 0, .slice none 0 0]) (t := 48) ?hr ?_; (case hd => rfl); (case hg => rfl); (case hr => first | (go_simp; done) | (go_simp; rfl)); intro gb581 hg w58 hbox hb; have n0_ := Aside0.mk (Kd.S_below (S_up HO_553002.out) hb); have n1_ := Aside0.mk (Kd.S_below (S_up HO_562002.out) hb); have n2_ := Aside0.mk (Kd.R_below (R_up HO575.out) hb); have n3_ := Aside0.mk (Kd.S_below (S_up HO580.out) hb); have n4_ := Aside0.mk (blk_below (g := gb552) (blk_up BK552.out) hb); have n5_ := Aside0.mk (blk_below (g := gb561) (blk_up BK561.out) hb); have n6_ := Aside0.mk (below_step (hs_) hb); have n7_ := Aside0.mk (hbox); have n8_ := Aside0.mk ((by rw [hg]; exact (below_size (hs_)) : w.heap.size ≤ gb581)); have n9_ := Aside0.mk ((by rw [hg]; exact (below_size (hs_)) : w.heap.size ≤ gb581)); have n10_ := Aside0.mk ((by rw [hg]; exact Nat.ne_of_lt (blk_lt (g := gb552) (blk_up BK552.out)) : gb552 ≠ gb581)); have n11_ := Aside0.mk ((by rw [hg]; exact Nat.ne_of_gt (blk_lt (g := gb552) (blk_up BK552.out)) : gb581 ≠ gb552)); have n12_ := Aside0.mk ((by rw [hg]; exact Nat.ne_of_lt (blk_lt (g := gb561) (blk_up BK561.out)) : gb561 ≠ gb581)); have n13_ := Aside0.mk ((by rw [hg]; exact Nat.ne_of_gt (blk_lt (g := gb561) (blk_up BK561.out)) : gb581 ≠ gb561)); clear HO_553002; clear HO_562002; clear HO575; clear HO580; clear BK552; clear BK561; clear HB; have HO_553002 := n0_; have HO_562002 := n1_; have HO575 := n2_; have HO580 := n3_; have BK552 := n4_; have BK561 := n5_; have HB := n6_; have BK581 := n7_; have GW581 := n8_; have GE581 := n9_; have NB552_581 := n10_; have NB581_552 := n11_; have NB561_581 := n12_; have NB581_561 := n13_; clear n0_ n1_ n2_ n3_ n4_ n5_ n6_ n7_ n8_ n9_ n10_ n11_ n12_ n13_; clear hb hbox hg; have hnb59 := NB581_552.out; have hnc59 := NB552_581.out; have hnb60 := NB581_561.out; have hnc60 := NB561_581.out; have hcz61_0 : w58.cell? ⟨gb581, 0, none⟩ = some (.int .i64 0) := (blk_cell BK581.out 0).trans rfl; have hcz61_1 : w58.cell? ⟨gb581, 1, none⟩ = some (.int .i64 0) := (blk_cell BK581.out 1).trans rfl; have hcz61_2 : w58.cell? ⟨gb581, 2, none⟩ = some (.slice none 0 0) := (blk_cell BK581.out 2).trans rfl; have hfz61_0 := blk_frozen BK581.out 0; have hfz61_1 := blk_frozen BK581.out 1; have hfz61_2 := blk_frozen BK581.out 2; obtain ⟨Ao62, co62, eo62⟩ := Kd.S_slice HO580.out; subst eo62; have hcz63_0 : w58.cell? ⟨gb552, 0, none⟩ = some (.int .i64 t547) := (blk_cell BK552.out 0).trans rfl; have hcz63_1 : w58.cell? ⟨gb552, 1, none⟩ = some (.int .i64 t548) := (blk_cell BK552.out 1).trans rfl; have hcz63_2 : w58.cell? ⟨gb552, 2, none⟩ = some (.slice Ao19 t549.length co19) := (blk_cell BK552.out 2).trans rfl; have hfz63_0 := blk_frozen BK552.out 0; have hfz63_1 := blk_frozen BK552.out 1; have hfz63_2 := blk_frozen BK552.out 2) | ((with_reducible refine gate_callee (f := 27) rfl ?_); refine goesY_ (some 56) Try.func27 #[.agg #[.int .i64 t576, .int .i64 t577, .slice Ao62 t578.length co62], .agg #[.int .i64 t547, .int .i64 t548, .slice Ao19 t549.length co19]] rfl ?_; (with_reducible refine (laws_eqOpsResult.calls kj12 t576 t577 _ _ t578 t547 t548 _ _ t549 true _ ?side1 ?side2 ?side3 ?side4 A45.out).mono ?_); (case side1 => refine (Kd.S_reads' (e := 37) (base := w.heap.size) (ok := fun k_ => ((((True ∧ k_ ≠ (if w55.heap.size ≤ k_ then k_ + 1 else k_)) ∧ some k_ ≠ (.slice Ao19 t549.length co19 : Value).ownBlock) ∧ some k_ ≠ (.slice Ao26 t558.length co26 : Value).ownBlock) ∧ some k_ ≠ (.slice Ao56 t573.length co56 : Value).ownBlock)) (n := t578.length) (c := co62) ?_).2.2; exact (by (with_reducible repeat (first | apply Kd.S_alloc | apply Kd.S_drewN | apply Kd.S_drew)); exact (Kd.S_mono (Kd.S_far (p := ⟨gb581, 2, none⟩) (Kd.S_far (p := ⟨gb581, 1, none⟩) (Kd.S_far (p := ⟨gb581, 0, none⟩) (Kd.S_types HO580.out BK581.out (by decide)) (fun _ hk => hk.2) (.int .i64 t576)) (fun _ hk => hk.2) (.int .i64 t577)) (fun _ hk => hk.2) (.slice Ao62 t578.length co62)) (fun _ h_ => h_.1)))); (case side2 => exact (Kd.S_reads' HO580.out).2.1); (case side3 => refine (Kd.S_reads' (e := 37) (base := w.heap.size) (ok := fun k_ => ((((some k_ ≠ (.slice Ao26 t558.length co26 : Value).ownBlock ∧ k_ ≠ (if w20.heap.size ≤ k_ then k_ else k_ + 1)) ∧ some k_ ≠ (.slice Ao56 t573.length co56 : Value).ownBlock) ∧ some k_ ≠ (.slice Ao62 t578.length co62 : Value).ownBlock) ∧ k_ ≠ (if w55.heap.size ≤ k_ then k_ else k_ + 1))) (n := t549.length) (c := co19) ?_).2.2; exact (by (with_reducible repeat (first | apply Kd.S_alloc | apply Kd.S_drewN | apply Kd.S_drew)); exact (Kd.S_mono (Kd.S_far (p := ⟨gb581, 2, none⟩) (Kd.S_far (p := ⟨gb581, 1, none⟩) (Kd.S_far (p := ⟨gb581, 0, none⟩) (Kd.S_types HO_553002.out BK581.out (by decide)) (fun _ hk => hk.2) (.int .i64 t576)) (fun _ hk => hk.2) (.int .i64 t577)) (fun _ hk => hk.2) (.slice Ao62 t578.length co62)) (fun _ h_ => h_.1)))); (case side4 => exact (Kd.S_reads' HO_553002.out).2.1); rintro e w64 ⟨rfl, hb⟩; refine ⟨_, rfl, ?_⟩; replace HO_553002 := Aside0.mk (Kd.S_below (by (with_reducible repeat (first | apply Kd.S_alloc | apply Kd.S_drewN | apply Kd.S_drew)); exact (Kd.S_mono (Kd.S_far (p := ⟨gb581, 2, none⟩) (Kd.S_far (p := ⟨gb581, 1, none⟩) (Kd.S_far (p := ⟨gb581, 0, none⟩) (Kd.S_types HO_553002.out BK581.out (by decide)) (fun _ hk => hk.2) (.int .i64 t576)) (fun _ hk => hk.2) (.int .i64 t577)) (fun _ hk => hk.2) (.slice Ao62 t578.length co62)) (fun _ h_ => h_.1))) hb); replace HO_562002 := Aside0.mk (Kd.S_below (by (with_reducible repeat (first | apply Kd.S_alloc | apply Kd.S_drewN | apply Kd.S_drew)); exact (Kd.S_mono (Kd.S_far (p := ⟨gb581, 2, none⟩) (Kd.S_far (p := ⟨gb581, 1, none⟩) (Kd.S_far (p := ⟨gb581, 0, none⟩) (Kd.S_types HO_562002.out BK581.out (by decide)) (fun _ hk => hk.2) (.int .i64 t576)) (fun _ hk => hk.2) (.int .i64 t577)) (fun _ hk => hk.2) (.slice Ao62 t578.length co62)) (fun _ h_ => h_.1))) hb); replace HO575 := Aside0.mk (Kd.R_below (by (with_reducible repeat (first | apply Kd.R_alloc | apply Kd.R_drewN | apply Kd.R_drew)); exact (Kd.R_mono (Kd.R_far (p := ⟨gb581, 2, none⟩) (Kd.R_far (p := ⟨gb581, 1, none⟩) (Kd.R_far (p := ⟨gb581, 0, none⟩) (Kd.R_types HO575.out BK581.out (by decide)) (fun _ hk => hk.2) (.int .i64 t576)) (fun _ hk => hk.2) (.int .i64 t577)) (fun _ hk => hk.2) (.slice Ao62 t578.length co62)) (fun _ h_ => h_.1))) hb); replace HO580 := Aside0.mk (Kd.S_below (by (with_reducible repeat (first | apply Kd.S_alloc | apply Kd.S_drewN | apply Kd.S_drew)); exact (Kd.S_mono (Kd.S_far (p := ⟨gb581, 2, none⟩) (Kd.S_far (p := ⟨gb581, 1, none⟩) (Kd.S_far (p := ⟨gb581, 0, none⟩) (Kd.S_types HO580.out BK581.out (by decide)) (fun _ hk => hk.2) (.int .i64 t576)) (fun _ hk => hk.2) (.int .i64 t577)) (fun _ hk => hk.2) (.slice Ao62 t578.length co62)) (fun _ h_ => h_.1))) hb); replace BK552 := Aside0.mk (blk_below (g := gb552) (o := .cells #[.int .i64 t547, .int .i64 t548, .slice Ao19 t549.length co19] 48 (0, 0)) (by (with_reducible repeat (first | refine blk_drewN ?_ _ | refine blk_drew ?_ | refine blk_alloc ?_ _)); refine blk_far ?_ NB552_581.out _; (with_reducible repeat (first | refine blk_drewN ?_ _ | refine blk_drew ?_ | refine blk_alloc ?_ _)); refine blk_far ?_ NB552_581.out _; (with_reducible repeat (first | refine blk_drewN ?_ _ | refine blk_drew ?_ | refine blk_alloc ?_ _)); refine blk_far ?_ NB552_581.out _; (with_reducible repeat (first | refine blk_drewN ?_ _ | refine blk_drew ?_ | refine blk_alloc ?_ _)); exact BK552.out) hb); replace BK561 := Aside0.mk (blk_below (g := gb561) (o := .cells #[.int .i64 t556, .int .i64 t557, .slice Ao26 t558.length co26] 48 (0, 0)) (by (with_reducible repeat (first | refine blk_drewN ?_ _ | refine blk_drew ?_ | refine blk_alloc ?_ _)); refine blk_far ?_ NB561_581.out _; (with_reducible repeat (first | refine blk_drewN ?_ _ | refine blk_drew ?_ | refine blk_alloc ?_ _)); refine blk_far ?_ NB561_581.out _; (with_reducible repeat (first | refine blk_drewN ?_ _ | refine blk_drew ?_ | refine blk_alloc ?_ _)); refine blk_far ?_ NB561_581.out _; (with_reducible repeat (first | refine blk_drewN ?_ _ | refine blk_drew ?_ | refine blk_alloc ?_ _)); exact BK561.out) hb); replace BK581 := Aside0.mk (blk_below (g := gb581) (o := .cells #[.int .i64 t576, .int .i64 t577, .slice Ao62 t578.length co62] 48 (0, 0)) (by (with_reducible repeat (first | refine blk_drewN ?_ _ | refine blk_drew ?_ | refine blk_alloc ?_ _)); refine blk_put (cs := #[.int .i64 t576, .int .i64 t577, .slice none 0 0]) ?_ 2 _ rfl; (with_reducible repeat (first | refine blk_drewN ?_ _ | refine blk_drew ?_ | refine blk_alloc ?_ _)); refine blk_put (cs := #[.int .i64 t576, .int .i64 0, .slice none 0 0]) ?_ 1 _ rfl; (with_reducible repeat (first | refine blk_drewN ?_ _ | refine blk_drew ?_ | refine blk_alloc ?_ _)); refine blk_put (cs := #[.int .i64 0, .int .i64 0, .slice none 0 0]) ?_ 0 _ rfl; (with_reducible repeat (first | refine blk_drewN ?_ _ | refine blk_drew ?_ | refine blk_alloc ?_ _)); exact BK581.out) hb); replace HB := Aside0.mk (below_step (hs_) hb); (try clear hb); have hcz65_0 : w64.cell? ⟨gb561, 0, none⟩ = some (.int .i64 t556) := (blk_cell BK561.out 0).trans rfl; have hcz65_1 : w64.cell? ⟨gb561, 1, none⟩ = some (.int .i64 t557) := (blk_cell BK561.out 1).trans rfl; have hcz65_2 : w64.cell? ⟨gb561, 2, none⟩ = some (.slice Ao26 t558.length co26) := (blk_cell BK561.out 2).trans rfl; have hfz65_0 := blk_frozen BK561.out 0; have hfz65_1 := blk_frozen BK561.out 1; have hfz65_2 := blk_frozen BK561.out 2) | ((with_reducible refine gate_callee (f := 29) rfl ?_); refine goesL_ (some 60) rfl rfl Try.func29 (by kernel_rfl) rfl #[.agg #[.int .i64 t556, .int .i64 t557, .slice Ao26 t571.length co26], .int .i64 1] rfl (by (try simp only [List.map_toArray, List.map_cons, List.map_nil]); first | done | (rw [show t571.length = t558.length from (Kd.S_reads' HO_562002.out).1.symm] <;> rfl) | rfl | (simp only [List.length_drop, List.length_take]; rfl)) ?_; (with_reducible refine (laws_heldOpsResult.calls kj12 t556 t557 _ _ t571 1 t583 _ ?side1 ?side2 A47.out).mono ?_); (case side1 => exact C_up (Kd.S_reads' HO_562002.out).2.2); (case side2 => rw [show t571.length = t558.length from (Kd.S_reads' HO_562002.out).1.symm]; exact (Kd.S_reads' HO_562002.out).2.1); rintro e w66 ⟨rfl, hb⟩; refine ⟨_, rfl, ?_⟩; replace HO_553002 := Aside0.mk (Kd.S_below (S_up HO_553002.out) hb); replace HO_562002 := Aside0.mk (Kd.S_below (S_up HO_562002.out) hb); replace HO575 := Aside0.mk (Kd.R_below (R_up HO575.out) hb); replace HO580 := Aside0.mk (Kd.S_below (S_up HO580.out) hb); replace BK552 := Aside0.mk (blk_below (g := gb552) (blk_up BK552.out) hb); replace BK561 := Aside0.mk (blk_below (g := gb561) (blk_up BK561.out) hb); replace BK581 := Aside0.mk (blk_below (g := gb581) (blk_up BK581.out) hb); replace HB := Aside0.mk (below_step (hs_) hb); (try clear hb)))
           go_ret
           exact ⟨by first | exact ve_ | (simp; generalize ByteArray.toList _ = zq_; cases zq_ <;> rfl), hs_⟩
         · replace c46 := Bool.eq_false_iff.mpr c46
           subst c46
           (try rw [if_neg (show ¬ (false = true) by decide)] at H)
           exact absurd H (by simp)
   · replace c11 := Bool.eq_false_iff.mpr c11
     subst c11
     (try rw [if_neg (show ¬ (false = true) by decide)] at H)
     exact absurd H (by simp)
  · replace c8 := Bool.eq_false_iff.mpr c8
    subst c8
    (try rw [if_neg (show ¬ (false = true) by decide)] at H)
    exact absurd H (by simp)

end Go.Proofs.Ytehdbobpbcjmeaa.PFnExactReadJournal

/- Functions of the program as Lean functions, each with the proof that its call comes to what that function says (texts written by a program of this session). Conditions: those that stand in each theorem. -/
import Derived.Test.YtnehephjliankaaPFnExactCmdFaultx0
import Derived.Test.YtnehephjliankaaPFnExactCmdFaultx8
import Derived.Test.YtnehephjliankaaPFnExactCmdFaultx9
namespace Go.Proofs.Ytnehephjliankaa.PFnExactCmdFault
open Go.RowKit Go.Proofs.YtnehephjliankaaW.PrintWords Go.Proofs.YtnehephjliankaaW.PrintLast Go.Proofs.YtnehephjliankaaW.PrintMore
attribute [local go_sem] max2_int min2_int max_two min_two max_three min_three max_four min_four   -- for this text's walks alone
set_option linter.unusedVariables false
set_option linter.unusedSimpArgs false

/-! ### impl_RangesFault: function 42 -/
def impl_RangesFault.l0 : Nat → List (S100) → Int → Int → Option (Int)
 | 0, _, _, _ => none
 | k + 1, x9, x10, x11 => if x11 < x10 then (if 0 ≤ x11 then (if x11 < (x9.length : Int) then ((impl_within.f ((rd_T100 x9 x11).f0) 0 999).bind fun t342 => (if t342 = true then ((impl_within.f ((rd_T100 x9 x11).f1) 0 999).bind fun t343 => (if t343 = true then (impl_RangesFault.l0 k x9 x10 (wrap64 (x11 + 1))) else (some 3))) else (some 3))) else (none)) else (none)) else (some 0)
def impl_RangesFault.f (k : Nat) (l0 : List (S100)) : Option (Int) := (impl_Range.f l0).bind fun t338 => ((impl_within.f t338 1 8).bind fun t339 => (if t339 = true then (impl_RangesFault.l0 k l0 (l0.length : Int) 0) else (some 2)))
set_option maxHeartbeats 8000000 in
set_option maxRecDepth 100000 in
theorem impl_RangesFault.calls (k : Nat) (A0 : Option Addr) (c0 : Nat) (l0 : List (S100)) (r : Int) (w : World) (hr0 : Kd.C k100 w A0 l0.length l0) (hc0 : l0.length ≤ c0) (h : impl_RangesFault.f k l0 = some r) :
 Calls Try.prog 42 #[.slice A0 l0.length c0] w fun e w' => e = .returned (.int .i64 r) ∧ Below w.heap.size w w' := by
 have hu100 := Try.underlying100
 have HR0 := Aside0.mk hr0
 have HC0 := Aside0.mk hc0
 clear hr0 hc0
 have HB := Aside0.mk (Below.refl w.heap.size w)
 have H : ((impl_Range.f l0).bind fun t338 => ((impl_within.f t338 1 8).bind fun t339 => (if t339 = true then (impl_RangesFault.l0 k l0 (l0.length : Int) 0) else (some 2)))) = some r := h
 clear h
 replace H := Option.bind_eq_some_iff.mp H
 obtain ⟨t338, A20, H⟩ := H
 (try dsimp only at H)
 have A2 := Aside0.mk A20
 clear A20
 replace H := Option.bind_eq_some_iff.mp H
 obtain ⟨t339, A30, H⟩ := H
 (try dsimp only at H)
 have A3 := Aside0.mk A30
 clear A30
 by_cases c4 : t339 = true
 ·
  subst c4
  (try rw [if_pos rfl] at H)
  have H' := Aside0.mk H
  clear H
  go_enter Try.func42, Try.ntmps42
  go_wp2_with (first | ((with_reducible refine gate_callee (f := 84) rfl ?_); refine goesY_ (some 6) Try.func84 #[.slice A0 l0.length c0] rfl ?_; (with_reducible refine (impl_Range.calls _ _ l0 t338 _ ?_ ?_ A2.out).mono ?_); exact C_up HR0.out; exact HC0.out; rintro e w' ⟨rfl, ⟨nd, rfl⟩⟩; refine ⟨_, rfl, ?_⟩) | ((with_reducible refine gate_callee (f := 37) rfl ?_); refine goesY_ (some 7) Try.func37 #[.int .i64 t338, .int .i64 1, .int .i64 8] rfl ?_; (with_reducible refine (impl_within.calls t338 1 8 true _ A3.out).mono ?_); rintro e w' ⟨rfl, ⟨nd, rfl⟩⟩; refine ⟨_, rfl, ?_⟩))
  go_loopg [11] k (fun kq v11 w' => ∃ (x11_1 : Int), v11 = .int .i64 x11_1 ∧ Aside0 (impl_RangesFault.l0 kq l0 (l0.length : Int) x11_1 = some r) ∧ Aside0 (kq ≤ k) ∧ Aside0 (Below w.heap.size w w'))
  case atStart => exact ⟨(0), vl_, H', ⟨Nat.le_refl _⟩, ⟨hb_⟩⟩
  case round =>
   clear H'
   try clear c4
   obtain ⟨x11_1, rfl, HA, HK1, HB⟩ := hrel
   cases gk with
   | zero => exact absurd HA.out (by simp [impl_RangesFault.l0])
   | succ k1 =>
     have H := HA.out
     clear HA
     simp only [impl_RangesFault.l0] at H
     by_cases c5 : x11_1 < (l0.length : Int)
     ·
      rw [if_pos c5] at H
      have c5b0 : decide (x11_1 < (l0.length : Int)) = true := decide_eq_true c5
      clear c5
      by_cases c6 : 0 ≤ x11_1
      case neg => rw [if_neg c6] at H; exact absurd H (by simp)
      rw [if_pos c6] at H
      have c6b0 : decide (0 ≤ x11_1) = true := decide_eq_true c6
      clear c6
      by_cases c7 : x11_1 < (l0.length : Int)
      case neg => rw [if_neg c7] at H; exact absurd H (by simp)
      rw [if_pos c7] at H
      have c7b0 : decide (x11_1 < (l0.length : Int)) = true := decide_eq_true c7
      clear c7
      replace H := Option.bind_eq_some_iff.mp H
      obtain ⟨t342, A80, H⟩ := H
      (try dsimp only at H)
      have A8 := Aside0.mk A80
      clear A80
      have p340 : 0 ≤ (x11_1 : Int) := od_
      have q340 : x11_1 < (l0.length : Int) := od_
      obtain ⟨ad340, e340, hx340_0, hx340_1⟩ := at_T100 HR0.out x11_1 p340 q340
      cases e340
      replace hx340_0 := ck_ HB.out hx340_0
      replace hx340_1 := ck_ HB.out hx340_1
      replace p340 := eq_true p340
      replace q340 := eq_true q340
      by_cases c9 : t342 = true
      ·
       subst c9
       (try rw [if_pos rfl] at H)
       replace H := Option.bind_eq_some_iff.mp H
       obtain ⟨t343, A100, H⟩ := H
       (try dsimp only at H)
       have A10 := Aside0.mk A100
       clear A100
       by_cases c11 : t343 = true
       ·
        subst c11
        (try rw [if_pos rfl] at H)
        have H' := Aside0.mk H
        clear H
        go_wp2_with (first | ((with_reducible refine gate_dst (N := 4) rfl ?_); refine box_event ?hg (N := 4) ?hd (cs := #[.int .i64 0, .int .i64 0]) (t := 100) ?hr ?_; (case hd => rfl); (case hg => rfl); (case hr => first | (go_simp; done) | (go_simp; rfl)); intro gb341 hg w12 hbox hb; have n0_ := Aside0.mk (below_step (HB_up HB.out) hb); have n1_ := Aside0.mk (hbox); have n2_ := Aside0.mk ((by rw [hg]; exact (below_size (HB_up HB.out)) : w.heap.size ≤ gb341)); have n3_ := Aside0.mk ((by rw [hg]; exact (below_size (HB_up HB.out)) : w.heap.size ≤ gb341)); clear HB; have HB := n0_; have BK341 := n1_; have GW341 := n2_; have GE341 := n3_; clear n0_ n1_ n2_ n3_; clear hb hbox hg; have hcz13_0 : w12.cell? ⟨gb341, 0, none⟩ = some (.int .i64 0) := (blk_cell BK341.out 0).trans rfl; have hcz13_1 : w12.cell? ⟨gb341, 1, none⟩ = some (.int .i64 0) := (blk_cell BK341.out 1).trans rfl; have hfz13_0 := blk_frozen BK341.out 0; have hfz13_1 := blk_frozen BK341.out 1) | ((with_reducible refine gate_callee (f := 37) rfl ?_); refine goesY_ (some 17) Try.func37 #[.int .i64 ((rd_T100 l0 x11_1).f0), .int .i64 0, .int .i64 999] rfl ?_; (with_reducible refine (impl_within.calls ((rd_T100 l0 x11_1).f0) 0 999 true _ A8.out).mono ?_); rintro e w' ⟨rfl, ⟨nd, rfl⟩⟩; refine ⟨_, rfl, ?_⟩) | (go_at_call 37; (with_reducible refine (impl_within.calls ((rd_T100 l0 x11_1).f1) 0 999 true _ A10.out).mono ?_); rintro e w' ⟨rfl, ⟨nd, rfl⟩⟩))
        go_roundg k1
        case measure => have := HK1.out; omega
        case rel => exact ⟨(wrap64 (x11_1 + 1)), vl_, H', ⟨by have := HK1.out; omega⟩, ⟨hs_⟩⟩
       ·
        replace c11 := Bool.eq_false_iff.mpr c11
        subst c11
        (try rw [if_neg (show ¬ (false = true) by decide)] at H)
        obtain rfl := Option.some.inj H
        go_wp2_with (first | ((with_reducible refine gate_dst (N := 4) rfl ?_); refine box_event ?hg (N := 4) ?hd (cs := #[.int .i64 0, .int .i64 0]) (t := 100) ?hr ?_; (case hd => rfl); (case hg => rfl); (case hr => first | (go_simp; done) | (go_simp; rfl)); intro gb341 hg w14 hbox hb; have n0_ := Aside0.mk (below_step (HB_up HB.out) hb); have n1_ := Aside0.mk (hbox); have n2_ := Aside0.mk ((by rw [hg]; exact (below_size (HB_up HB.out)) : w.heap.size ≤ gb341)); have n3_ := Aside0.mk ((by rw [hg]; exact (below_size (HB_up HB.out)) : w.heap.size ≤ gb341)); clear HB; have HB := n0_; have BK341 := n1_; have GW341 := n2_; have GE341 := n3_; clear n0_ n1_ n2_ n3_; clear hb hbox hg; have hcz15_0 : w14.cell? ⟨gb341, 0, none⟩ = some (.int .i64 0) := (blk_cell BK341.out 0).trans rfl; have hcz15_1 : w14.cell? ⟨gb341, 1, none⟩ = some (.int .i64 0) := (blk_cell BK341.out 1).trans rfl; have hfz15_0 := blk_frozen BK341.out 0; have hfz15_1 := blk_frozen BK341.out 1) | ((with_reducible refine gate_callee (f := 37) rfl ?_); refine goesY_ (some 17) Try.func37 #[.int .i64 ((rd_T100 l0 x11_1).f0), .int .i64 0, .int .i64 999] rfl ?_; (with_reducible refine (impl_within.calls ((rd_T100 l0 x11_1).f0) 0 999 true _ A8.out).mono ?_); rintro e w' ⟨rfl, ⟨nd, rfl⟩⟩; refine ⟨_, rfl, ?_⟩) | (go_at_call 37; (with_reducible refine (impl_within.calls ((rd_T100 l0 x11_1).f1) 0 999 false _ A10.out).mono ?_); rintro e w' ⟨rfl, ⟨nd, rfl⟩⟩))
        go_ret
        exact ⟨ve_, hs_⟩
      ·
       replace c9 := Bool.eq_false_iff.mpr c9
       subst c9
       (try rw [if_neg (show ¬ (false = true) by decide)] at H)
       obtain rfl := Option.some.inj H
       go_wp2_with (first | ((with_reducible refine gate_dst (N := 4) rfl ?_); refine box_event ?hg (N := 4) ?hd (cs := #[.int .i64 0, .int .i64 0]) (t := 100) ?hr ?_; (case hd => rfl); (case hg => rfl); (case hr => first | (go_simp; done) | (go_simp; rfl)); intro gb341 hg w16 hbox hb; have n0_ := Aside0.mk (below_step (HB_up HB.out) hb); have n1_ := Aside0.mk (hbox); have n2_ := Aside0.mk ((by rw [hg]; exact (below_size (HB_up HB.out)) : w.heap.size ≤ gb341)); have n3_ := Aside0.mk ((by rw [hg]; exact (below_size (HB_up HB.out)) : w.heap.size ≤ gb341)); clear HB; have HB := n0_; have BK341 := n1_; have GW341 := n2_; have GE341 := n3_; clear n0_ n1_ n2_ n3_; clear hb hbox hg; have hcz17_0 : w16.cell? ⟨gb341, 0, none⟩ = some (.int .i64 0) := (blk_cell BK341.out 0).trans rfl; have hcz17_1 : w16.cell? ⟨gb341, 1, none⟩ = some (.int .i64 0) := (blk_cell BK341.out 1).trans rfl; have hfz17_0 := blk_frozen BK341.out 0; have hfz17_1 := blk_frozen BK341.out 1) | ((with_reducible refine gate_callee (f := 37) rfl ?_); refine goesY_ (some 17) Try.func37 #[.int .i64 ((rd_T100 l0 x11_1).f0), .int .i64 0, .int .i64 999] rfl ?_; (with_reducible refine (impl_within.calls ((rd_T100 l0 x11_1).f0) 0 999 false _ A8.out).mono ?_); rintro e w' ⟨rfl, ⟨nd, rfl⟩⟩; refine ⟨_, rfl, ?_⟩))
       go_ret
       exact ⟨ve_, hs_⟩
     ·
      rw [if_neg c5] at H
      have c5b0 : decide (x11_1 < (l0.length : Int)) = false := decide_eq_false c5
      clear c5
      obtain rfl := Option.some.inj H
      go_wp2
      go_ret
      exact ⟨ve_, hb_⟩
 ·
  replace c4 := Bool.eq_false_iff.mpr c4
  subst c4
  (try rw [if_neg (show ¬ (false = true) by decide)] at H)
  obtain rfl := Option.some.inj H
  go_enter Try.func42, Try.ntmps42
  go_wp2_with (first | ((with_reducible refine gate_callee (f := 84) rfl ?_); refine goesY_ (some 6) Try.func84 #[.slice A0 l0.length c0] rfl ?_; (with_reducible refine (impl_Range.calls _ _ l0 t338 _ ?_ ?_ A2.out).mono ?_); exact C_up HR0.out; exact HC0.out; rintro e w' ⟨rfl, ⟨nd, rfl⟩⟩; refine ⟨_, rfl, ?_⟩) | ((with_reducible refine gate_callee (f := 37) rfl ?_); refine goesY_ (some 7) Try.func37 #[.int .i64 t338, .int .i64 1, .int .i64 8] rfl ?_; (with_reducible refine (impl_within.calls t338 1 8 false _ A3.out).mono ?_); rintro e w' ⟨rfl, ⟨nd, rfl⟩⟩; refine ⟨_, rfl, ?_⟩))
  go_ret
  exact ⟨ve_, hb_⟩

/-! ### impl_areFlags: function 85 -/
def impl_areFlags.f (a0 : Int) : Option (Bool) := (impl_within.f a0 0 15).bind fun t344 => (some t344)
set_option maxHeartbeats 8000000 in
set_option maxRecDepth 100000 in
theorem impl_areFlags.calls (a0 : Int) (r : Bool) (w : World) (h : impl_areFlags.f a0 = some r) :
 Calls Try.prog 85 #[.int .i64 a0] w fun e w' => e = .returned (.bool r) ∧ Drawn0 w w' := by
 have H : ((impl_within.f a0 0 15).bind fun t344 => (some t344)) = some r := h
 clear h
 replace H := Option.bind_eq_some_iff.mp H
 obtain ⟨t344, A20, H⟩ := H
 replace H : (some t344) = some r := H
 have A2 := Aside0.mk A20
 clear A20
 obtain rfl := Option.some.inj H
 go_enter Try.func85, Try.ntmps85
 go_wp2_with (first | ((with_reducible refine gate_callee (f := 37) rfl ?_); refine goesY_ (some 4) Try.func37 #[.int .i64 a0, .int .i64 0, .int .i64 15] rfl ?_; (with_reducible refine (impl_within.calls a0 0 15 t344 _ A2.out).mono ?_); rintro e w' ⟨rfl, ⟨nd, rfl⟩⟩; refine ⟨_, rfl, ?_⟩))
 go_ret
 exact ⟨vl_, dr_⟩

/-! ### impl_isDate: function 86 -/
def impl_isDate.f (a0 : Int) : Option (Bool) := (impl_within.f a0 0 9999).bind fun t345 => (some t345)
set_option maxHeartbeats 8000000 in
set_option maxRecDepth 100000 in
theorem impl_isDate.calls (a0 : Int) (r : Bool) (w : World) (h : impl_isDate.f a0 = some r) :
 Calls Try.prog 86 #[.int .i64 a0] w fun e w' => e = .returned (.bool r) ∧ Drawn0 w w' := by
 have H : ((impl_within.f a0 0 9999).bind fun t345 => (some t345)) = some r := h
 clear h
 replace H := Option.bind_eq_some_iff.mp H
 obtain ⟨t345, A20, H⟩ := H
 replace H : (some t345) = some r := H
 have A2 := Aside0.mk A20
 clear A20
 obtain rfl := Option.some.inj H
 go_enter Try.func86, Try.ntmps86
 go_wp2_with (first | ((with_reducible refine gate_callee (f := 37) rfl ?_); refine goesY_ (some 4) Try.func37 #[.int .i64 a0, .int .i64 0, .int .i64 9999] rfl ?_; (with_reducible refine (impl_within.calls a0 0 9999 t345 _ A2.out).mono ?_); rintro e w' ⟨rfl, ⟨nd, rfl⟩⟩; refine ⟨_, rfl, ?_⟩))
 go_ret
 exact ⟨vl_, dr_⟩

-- NOT PRINTED: function 147 (slices_IndexFunc_int64_int64)

-- NOT PRINTED: function 129 (slices_ContainsFunc_int64_int64)

/-! ### impl_isPath_1: function 130 -/
def impl_isPath_1.f (a0 : Int) : Option (Bool) := (impl_within.f a0 1 9).bind fun t346 => (some (!t346))
set_option maxHeartbeats 8000000 in
set_option maxRecDepth 100000 in
theorem impl_isPath_1.calls (a0 : Int) (r : Bool) (w : World) (h : impl_isPath_1.f a0 = some r) :
 Calls Try.prog 130 #[.int .i64 a0] w fun e w' => e = .returned (.bool r) ∧ Drawn0 w w' := by
 have H : ((impl_within.f a0 1 9).bind fun t346 => (some (!t346))) = some r := h
 clear h
 replace H := Option.bind_eq_some_iff.mp H
 obtain ⟨t346, A20, H⟩ := H
 replace H : (some (!t346)) = some r := H
 have A2 := Aside0.mk A20
 clear A20
 obtain rfl := Option.some.inj H
 go_enter Try.func130, Try.ntmps130
 go_wp2_with (first | ((with_reducible refine gate_callee (f := 37) rfl ?_); refine goesY_ (some 4) Try.func37 #[.int .i64 a0, .int .i64 1, .int .i64 9] rfl ?_; (with_reducible refine (impl_within.calls a0 1 9 t346 _ A2.out).mono ?_); rintro e w' ⟨rfl, ⟨nd, rfl⟩⟩; refine ⟨_, rfl, ?_⟩))
 go_ret
 exact ⟨vl_, dr_⟩

/-! ### slices_IndexFunc_int64_int64_v1: function 1000001 -/
def slices_IndexFunc_int64_int64_v1.l0 : Nat → List Int → Int → Int → Option (Int)
 | 0, _, _, _ => none
 | k + 1, x0, x7, x8 => if x8 < x7 then (if 0 ≤ x8 then (if x8 < (x0.length : Int) then ((impl_isPath_1.f (rd x0 x8)).bind fun t348 => (if t348 = true then (some x8) else (slices_IndexFunc_int64_int64_v1.l0 k x0 x7 (wrap64 (x8 + 1))))) else (none)) else (none)) else (some (-1))
def slices_IndexFunc_int64_int64_v1.f (k : Nat) (l0 : List Int)  : Option (Int) := slices_IndexFunc_int64_int64_v1.l0 k l0 (l0.length : Int) 0
set_option maxHeartbeats 8000000 in
set_option maxRecDepth 100000 in
theorem slices_IndexFunc_int64_int64_v1.calls (k : Nat) (A0 : Option Addr) (c0 : Nat) (l0 : List Int)  (r : Int) (w : World) (hr0 : Kd.C (Kd.int .i64) w A0 l0.length l0) (hc0 : l0.length ≤ c0) (h : slices_IndexFunc_int64_int64_v1.f k l0 = some r) :
 Calls Try.prog 147 #[.slice A0 l0.length c0, .func (.func 130) #[] #[]] w fun e w' => e = .returned (.int .i64 r) ∧ Below w.heap.size w w' := by
 have HR0 := Aside0.mk hr0
 have HC0 := Aside0.mk hc0
 clear hr0 hc0
 have HB := Aside0.mk (Below.refl w.heap.size w)
 have H : (slices_IndexFunc_int64_int64_v1.l0 k l0 (l0.length : Int) 0) = some r := h
 clear h
 have H' := Aside0.mk H
 clear H
 go_enter Try.func147, Try.ntmps147
 go_wp2
 go_loopg [8] k (fun kq v8 w' => ∃ (x8_1 : Int), v8 = .int .i64 x8_1 ∧ Aside0 (slices_IndexFunc_int64_int64_v1.l0 kq l0 (l0.length : Int) x8_1 = some r) ∧ Aside0 (kq ≤ k) ∧ Aside0 (Below w.heap.size w w'))
 case atStart => exact ⟨(0), vl_, H', ⟨Nat.le_refl _⟩, ⟨hb_⟩⟩
 case round =>
  clear H'
  try clear c1
  try clear p2
  obtain ⟨x8_1, rfl, HA, HK1, HB⟩ := hrel
  cases gk with
  | zero => exact absurd HA.out (by simp [slices_IndexFunc_int64_int64_v1.l0])
  | succ k1 =>
    have H := HA.out
    clear HA
    simp only [slices_IndexFunc_int64_int64_v1.l0] at H
    by_cases c3 : x8_1 < (l0.length : Int)
    ·
     rw [if_pos c3] at H
     have c3b0 : decide (x8_1 < (l0.length : Int)) = true := decide_eq_true c3
     clear c3
     by_cases c4 : 0 ≤ x8_1
     ·
      rw [if_pos c4] at H
      have c4b0 : decide (0 ≤ x8_1) = true := decide_eq_true c4
      clear c4
      by_cases c5 : x8_1 < (l0.length : Int)
      ·
       rw [if_pos c5] at H
       have c5b0 : decide (x8_1 < (l0.length : Int)) = true := decide_eq_true c5
       clear c5
       replace H := Option.bind_eq_some_iff.mp H
       obtain ⟨t348, A60, H⟩ := H
       (try dsimp only at H)
       have A6 := Aside0.mk A60
       clear A60
       have p347 : 0 ≤ (x8_1 : Int) := od_
       have q347 : x8_1 < (l0.length : Int) := od_
       obtain ⟨ad347, e347, hx347_0⟩ := Kd.at_int HR0.out x8_1 p347 q347
       cases e347
       replace hx347_0 := ck_ HB.out hx347_0
       replace p347 := eq_true p347
       replace q347 := eq_true q347
       by_cases c7 : t348 = true
       ·
        subst c7
        (try rw [if_pos rfl] at H)
        obtain rfl := Option.some.inj H
        go_wp2_with (first | (go_at_call 130; (with_reducible refine (impl_isPath_1.calls (rd l0 x8_1) true _ A6.out).mono ?_); rintro e w' ⟨rfl, ⟨nd, rfl⟩⟩))
        go_ret
        exact ⟨ve_, hb_⟩
       ·
        replace c7 := Bool.eq_false_iff.mpr c7
        subst c7
        (try rw [if_neg (show ¬ (false = true) by decide)] at H)
        have H' := Aside0.mk H
        clear H
        go_wp2_with (first | (go_at_call 130; (with_reducible refine (impl_isPath_1.calls (rd l0 x8_1) false _ A6.out).mono ?_); rintro e w' ⟨rfl, ⟨nd, rfl⟩⟩))
        go_roundg k1
        case measure => have := HK1.out; omega
        case rel => exact ⟨(wrap64 (x8_1 + 1)), vl_, H', ⟨by have := HK1.out; omega⟩, ⟨hb_⟩⟩
      · rw [if_neg c5] at H
        exact absurd H (by simp)
     · rw [if_neg c4] at H
       exact absurd H (by simp)
    ·
     rw [if_neg c3] at H
     have c3b0 : decide (x8_1 < (l0.length : Int)) = false := decide_eq_false c3
     clear c3
     obtain rfl := Option.some.inj H
     go_wp2
     go_ret
     exact ⟨ve_, hb_⟩

/-! ### slices_ContainsFunc_int64_int64_v0: function 1000000 -/
def slices_ContainsFunc_int64_int64_v0.f (k : Nat) (l0 : List Int)  : Option (Bool) := (slices_IndexFunc_int64_int64_v1.f k l0).bind fun t349 => (some (decide (t349 ≥ 0)))
set_option maxHeartbeats 8000000 in
set_option maxRecDepth 100000 in
theorem slices_ContainsFunc_int64_int64_v0.calls (k : Nat) (A0 : Option Addr) (c0 : Nat) (l0 : List Int)  (r : Bool) (w : World) (hr0 : Kd.C (Kd.int .i64) w A0 l0.length l0) (hc0 : l0.length ≤ c0) (h : slices_ContainsFunc_int64_int64_v0.f k l0 = some r) :
 Calls Try.prog 129 #[.slice A0 l0.length c0, .func (.func 130) #[] #[]] w fun e w' => e = .returned (.bool r) ∧ Below w.heap.size w w' := by
 have HR0 := Aside0.mk hr0
 have HC0 := Aside0.mk hc0
 clear hr0 hc0
 have HB := Aside0.mk (Below.refl w.heap.size w)
 have H : ((slices_IndexFunc_int64_int64_v1.f k l0).bind fun t349 => (some (decide (t349 ≥ 0)))) = some r := h
 clear h
 replace H := Option.bind_eq_some_iff.mp H
 obtain ⟨t349, A30, H⟩ := H
 replace H : (some (decide (t349 ≥ 0))) = some r := H
 have A3 := Aside0.mk A30
 clear A30
 obtain rfl := Option.some.inj H
 go_enter Try.func129, Try.ntmps129
 go_wp2_with (first | (go_at_call 147; (with_reducible refine (slices_IndexFunc_int64_int64_v1.calls k _ _ l0 t349 _ ?_ ?_ A3.out).mono ?_); exact C_up HR0.out; exact HC0.out; rintro e w4 ⟨rfl, hb⟩; replace HB := Aside0.mk (below_step (HB_up HB.out) hb); (try clear hb)))
 go_ret
 exact ⟨ve_, hb_⟩

/-! ### impl_isPath: function 87 -/
def impl_isPath.f (k : Nat) (l0 : List Int) : Option (Bool) := if (l0.length : Int) ≤ 3 then ((slices_ContainsFunc_int64_int64_v0.f k l0).bind fun t350 => (some (!t350))) else (some false)
set_option maxHeartbeats 8000000 in
set_option maxRecDepth 100000 in
theorem impl_isPath.calls (k : Nat) (A0 : Option Addr) (c0 : Nat) (l0 : List Int) (r : Bool) (w : World) (hr0 : Kd.C (Kd.int .i64) w A0 l0.length l0) (hc0 : l0.length ≤ c0) (h : impl_isPath.f k l0 = some r) :
 Calls Try.prog 87 #[.slice A0 l0.length c0] w fun e w' => e = .returned (.bool r) ∧ Below w.heap.size w w' := by
 have HR0 := Aside0.mk hr0
 have HC0 := Aside0.mk hc0
 clear hr0 hc0
 have HB := Aside0.mk (Below.refl w.heap.size w)
 have H : (if (l0.length : Int) ≤ 3 then ((slices_ContainsFunc_int64_int64_v0.f k l0).bind fun t350 => (some (!t350))) else (some false)) = some r := h
 clear h
 by_cases c2 : (l0.length : Int) ≤ 3
 ·
  rw [if_pos c2] at H
  have c2b0 : decide ((l0.length : Int) ≤ 3) = true := decide_eq_true c2
  have c2b1 : decide (l0.length ≤ 3) = true := decide_eq_true (by omega)
  clear c2
  replace H := Option.bind_eq_some_iff.mp H
  obtain ⟨t350, A30, H⟩ := H
  replace H : (some (!t350)) = some r := H
  have A3 := Aside0.mk A30
  clear A30
  obtain rfl := Option.some.inj H
  go_enter Try.func87, Try.ntmps87
  go_wp2_with (first | (go_at_call 129; (with_reducible refine (slices_ContainsFunc_int64_int64_v0.calls k _ _ l0 t350 _ ?_ ?_ A3.out).mono ?_); exact C_up HR0.out; exact HC0.out; rintro e w4 ⟨rfl, hb⟩; replace HB := Aside0.mk (below_step (HB_up HB.out) hb); (try clear hb)))
  go_ret
  exact ⟨ve_, hb_⟩
 ·
  rw [if_neg c2] at H
  have c2b0 : decide ((l0.length : Int) ≤ 3) = false := decide_eq_false c2
  have c2b1 : decide (l0.length ≤ 3) = false := decide_eq_false (by omega)
  clear c2
  obtain rfl := Option.some.inj H
  go_enter Try.func87, Try.ntmps87
  go_wp2
  go_ret
  exact ⟨ve_, hb_⟩

/-! ### impl_isKey: function 88 -/
def impl_isKey.f (a0 : Int) : Option (Bool) := (impl_within.f a0 1 4).bind fun t351 => (some t351)
set_option maxHeartbeats 8000000 in
set_option maxRecDepth 100000 in
theorem impl_isKey.calls (a0 : Int) (r : Bool) (w : World) (h : impl_isKey.f a0 = some r) :
 Calls Try.prog 88 #[.int .i64 a0] w fun e w' => e = .returned (.bool r) ∧ Drawn0 w w' := by
 have H : ((impl_within.f a0 1 4).bind fun t351 => (some t351)) = some r := h
 clear h
 replace H := Option.bind_eq_some_iff.mp H
 obtain ⟨t351, A20, H⟩ := H
 replace H : (some t351) = some r := H
 have A2 := Aside0.mk A20
 clear A20
 obtain rfl := Option.some.inj H
 go_enter Try.func88, Try.ntmps88
 go_wp2_with (first | ((with_reducible refine gate_callee (f := 37) rfl ?_); refine goesY_ (some 4) Try.func37 #[.int .i64 a0, .int .i64 1, .int .i64 4] rfl ?_; (with_reducible refine (impl_within.calls a0 1 4 t351 _ A2.out).mono ?_); rintro e w' ⟨rfl, ⟨nd, rfl⟩⟩; refine ⟨_, rfl, ?_⟩))
 go_ret
 exact ⟨vl_, dr_⟩

/-! ### impl_isComparator: function 89 -/
def impl_isComparator.f (a0 : Int) : Option (Bool) := (impl_within.f a0 1 3).bind fun t352 => (some t352)
set_option maxHeartbeats 8000000 in
set_option maxRecDepth 100000 in
theorem impl_isComparator.calls (a0 : Int) (r : Bool) (w : World) (h : impl_isComparator.f a0 = some r) :
 Calls Try.prog 89 #[.int .i64 a0] w fun e w' => e = .returned (.bool r) ∧ Drawn0 w w' := by
 have H : ((impl_within.f a0 1 3).bind fun t352 => (some t352)) = some r := h
 clear h
 replace H := Option.bind_eq_some_iff.mp H
 obtain ⟨t352, A20, H⟩ := H
 replace H : (some t352) = some r := H
 have A2 := Aside0.mk A20
 clear A20
 obtain rfl := Option.some.inj H
 go_enter Try.func89, Try.ntmps89
 go_wp2_with (first | ((with_reducible refine gate_callee (f := 37) rfl ?_); refine goesY_ (some 4) Try.func37 #[.int .i64 a0, .int .i64 1, .int .i64 3] rfl ?_; (with_reducible refine (impl_within.calls a0 1 3 t352 _ A2.out).mono ?_); rintro e w' ⟨rfl, ⟨nd, rfl⟩⟩; refine ⟨_, rfl, ?_⟩))
 go_ret
 exact ⟨vl_, dr_⟩

/-! ### impl_length_byte: function 90 -/
def impl_length_byte.f (l0 : List Int) : Option (Int) := some (l0.length : Int)
set_option maxHeartbeats 8000000 in
set_option maxRecDepth 100000 in
theorem impl_length_byte.calls (A0 : Option Addr) (c0 : Nat) (l0 : List Int) (r : Int) (w : World) (hr0 : Kd.C (Kd.int .u8) w A0 l0.length l0) (hc0 : l0.length ≤ c0) (h : impl_length_byte.f l0 = some r) :
 Calls Try.prog 90 #[.slice A0 l0.length c0] w fun e w' => e = .returned (.int .i64 r) ∧ Drawn0 w w' := by
 have HR0 := Aside0.mk hr0
 have HC0 := Aside0.mk hc0
 clear hr0 hc0
 have H : (some (l0.length : Int)) = some r := h
 clear h
 obtain rfl := Option.some.inj H
 go_enter Try.func90, Try.ntmps90
 go_wp2
 go_ret
 exact ⟨vl_, dr_⟩

/-! ### impl_Cmd_areNumbers: function 43 -/
mutual
def impl_Cmd_areNumbers.j0 : Nat → Bool → ByteArray → Int → ByteArray → List (S100) → Int → Int → Int → List Int → Int → List Int → Int → Bool → List (S104) → Int → Option (Bool)
 | 0, _, _, _, _, _, _, _, _, _, _, _, _, _, _, _ => none
 | k + 1, x3, x354000, x354001, x354002, x354003, x354004, x354005, x354006, x354007, x354008, x354009, x354010, x354011, x354012, x354013 => if x3 = true then (impl_Cmd_areNumbers.j1 k x3 x354000 x354001 x354002 x354003 x354004 x354005 x354006 x354007 x354008 x354009 x354010 x354011 x354012 x354013) else ((impl_areFlags.f x354005).bind fun t359 => (if t359 = true then ((impl_isDate.f x354006).bind fun t360 => (if t360 = true then ((impl_Cmd_is.f k x354000 x354001 x354002 x354003 x354004 x354005 x354006 x354007 x354008 x354009 x354010 x354011 x354012 x354013 (([11] : List Int))).bind fun t364 => (if t364 = true then ((impl_within.f x354008 1 7).bind fun t365 => (impl_Cmd_areNumbers.j1 k (!t365) x354000 x354001 x354002 x354003 x354004 x354005 x354006 x354007 x354008 x354009 x354010 x354011 x354012 x354013)) else (impl_Cmd_areNumbers.j1 k false x354000 x354001 x354002 x354003 x354004 x354005 x354006 x354007 x354008 x354009 x354010 x354011 x354012 x354013))) else (impl_Cmd_areNumbers.j1 k (!t360) x354000 x354001 x354002 x354003 x354004 x354005 x354006 x354007 x354008 x354009 x354010 x354011 x354012 x354013))) else (impl_Cmd_areNumbers.j1 k (!t359) x354000 x354001 x354002 x354003 x354004 x354005 x354006 x354007 x354008 x354009 x354010 x354011 x354012 x354013)))
def impl_Cmd_areNumbers.j1 : Nat → Bool → ByteArray → Int → ByteArray → List (S100) → Int → Int → Int → List Int → Int → List Int → Int → Bool → List (S104) → Int → Option (Bool)
 | 0, _, _, _, _, _, _, _, _, _, _, _, _, _, _, _ => none
 | k + 1, x3, x354000, x354001, x354002, x354003, x354004, x354005, x354006, x354007, x354008, x354009, x354010, x354011, x354012, x354013 => if x3 = true then (some false) else ((impl_isPath.f k x354009).bind fun t366 => (if t366 = true then ((impl_Cmd_is.f k x354000 x354001 x354002 x354003 x354004 x354005 x354006 x354007 x354008 x354009 x354010 x354011 x354012 x354013 (([13] : List Int))).bind fun t370 => (if t370 = true then ((impl_isKey.f x354010).bind fun t371 => (impl_Cmd_areNumbers.j2 k (!t371) x354000 x354001 x354002 x354003 x354004 x354005 x354006 x354007 x354008 x354009 x354010 x354011 x354012 x354013)) else (impl_Cmd_areNumbers.j2 k false x354000 x354001 x354002 x354003 x354004 x354005 x354006 x354007 x354008 x354009 x354010 x354011 x354012 x354013))) else (some false)))
def impl_Cmd_areNumbers.j2 : Nat → Bool → ByteArray → Int → ByteArray → List (S100) → Int → Int → Int → List Int → Int → List Int → Int → Bool → List (S104) → Int → Option (Bool)
 | 0, _, _, _, _, _, _, _, _, _, _, _, _, _, _, _ => none
 | k + 1, x30, x354000, x354001, x354002, x354003, x354004, x354005, x354006, x354007, x354008, x354009, x354010, x354011, x354012, x354013 => if x30 = true then (some false) else ((impl_Cmd_is.f k x354000 x354001 x354002 x354003 x354004 x354005 x354006 x354007 x354008 x354009 x354010 x354011 x354012 x354013 (([14] : List Int))).bind fun t375 => (if t375 = true then ((impl_isComparator.f x354013).bind fun t376 => (impl_Cmd_areNumbers.j3 k (!t376) x354000 x354001 x354002 x354003 x354004 x354005 x354006 x354007 x354008 x354009 x354010 x354011 x354012 x354013)) else (impl_Cmd_areNumbers.j3 k false x354000 x354001 x354002 x354003 x354004 x354005 x354006 x354007 x354008 x354009 x354010 x354011 x354012 x354013)))
def impl_Cmd_areNumbers.j3 : Nat → Bool → ByteArray → Int → ByteArray → List (S100) → Int → Int → Int → List Int → Int → List Int → Int → Bool → List (S104) → Int → Option (Bool)
 | 0, _, _, _, _, _, _, _, _, _, _, _, _, _, _, _ => none
 | k + 1, x30, x354000, x354001, x354002, x354003, x354004, x354005, x354006, x354007, x354008, x354009, x354010, x354011, x354012, x354013 => if x30 = true then (some false) else ((impl_Cmd_is.f k x354000 x354001 x354002 x354003 x354004 x354005 x354006 x354007 x354008 x354009 x354010 x354011 x354012 x354013 (([6] : List Int))).bind fun t380 => (if t380 = true then ((impl_length_byte.f x354007).bind fun t381 => ((impl_within.f t381 1 400).bind fun t382 => (if t382 = true then (some true) else (some false)))) else (some true)))
end
def impl_Cmd_areNumbers.f (k : Nat) (a0_0 : ByteArray) (a0_1 : Int) (a0_2 : ByteArray) (l0_3 : List (S100)) (a0_4 : Int) (a0_5 : Int) (a0_6 : Int) (l0_7 : List Int) (a0_8 : Int) (l0_9 : List Int) (a0_10 : Int) (a0_11 : Bool) (l0_12 : List (S104)) (a0_13 : Int) : Option (Bool) := (impl_Cmd_is.f k a0_0 a0_1 a0_2 l0_3 a0_4 a0_5 a0_6 l0_7 a0_8 l0_9 a0_10 a0_11 l0_12 a0_13 (([7] : List Int))).bind fun t357 => (if t357 = true then ((impl_within.f a0_4 1 3).bind fun t358 => (impl_Cmd_areNumbers.j0 k (!t358) a0_0 a0_1 a0_2 l0_3 a0_4 a0_5 a0_6 l0_7 a0_8 l0_9 a0_10 a0_11 l0_12 a0_13)) else (impl_Cmd_areNumbers.j0 k false a0_0 a0_1 a0_2 l0_3 a0_4 a0_5 a0_6 l0_7 a0_8 l0_9 a0_10 a0_11 l0_12 a0_13))
set_option maxHeartbeats 8000000 in
set_option maxRecDepth 100000 in
theorem impl_Cmd_areNumbers.calls (k : Nat) (a0_0 : ByteArray) (a0_1 : Int) (a0_2 : ByteArray) (A0_3 : Option Addr) (c0_3 : Nat) (l0_3 : List (S100)) (a0_4 : Int) (a0_5 : Int) (a0_6 : Int) (A0_7 : Option Addr) (c0_7 : Nat) (l0_7 : List Int) (a0_8 : Int) (A0_9 : Option Addr) (c0_9 : Nat) (l0_9 : List Int) (a0_10 : Int) (a0_11 : Bool) (A0_12 : Option Addr) (c0_12 : Nat) (l0_12 : List (S104)) (a0_13 : Int) (r : Bool) (w : World) (hr0_3 : Kd.C k100 w A0_3 l0_3.length l0_3) (hc0_3 : l0_3.length ≤ c0_3) (hr0_7 : Kd.C (Kd.int .u8) w A0_7 l0_7.length l0_7) (hc0_7 : l0_7.length ≤ c0_7) (hr0_9 : Kd.C (Kd.int .i64) w A0_9 l0_9.length l0_9) (hc0_9 : l0_9.length ≤ c0_9) (hr0_12 : Kd.C k104 w A0_12 l0_12.length l0_12) (hc0_12 : l0_12.length ≤ c0_12) (h : impl_Cmd_areNumbers.f k a0_0 a0_1 a0_2 l0_3 a0_4 a0_5 a0_6 l0_7 a0_8 l0_9 a0_10 a0_11 l0_12 a0_13 = some r) :
 Calls Try.prog 43 #[.agg #[.string a0_0, .int .i64 a0_1, .string a0_2, .slice A0_3 l0_3.length c0_3, .int .i64 a0_4, .int .i64 a0_5, .int .i64 a0_6, .slice A0_7 l0_7.length c0_7, .int .i64 a0_8, .slice A0_9 l0_9.length c0_9, .int .i64 a0_10, .bool a0_11, .slice A0_12 l0_12.length c0_12, .int .i64 a0_13]] w fun e w' => e = .returned (.bool r) ∧ Below w.heap.size w w' := by
 have hu33 := Try.underlying33
 have HR0_3 := Aside0.mk hr0_3
 have HC0_3 := Aside0.mk hc0_3
 clear hr0_3 hc0_3
 have HR0_7 := Aside0.mk hr0_7
 have HC0_7 := Aside0.mk hc0_7
 clear hr0_7 hc0_7
 have HR0_9 := Aside0.mk hr0_9
 have HC0_9 := Aside0.mk hc0_9
 clear hr0_9 hc0_9
 have HR0_12 := Aside0.mk hr0_12
 have HC0_12 := Aside0.mk hc0_12
 clear hr0_12 hc0_12
 have HB := Aside0.mk (Below.refl w.heap.size w)
 have H : ((impl_Cmd_is.f k a0_0 a0_1 a0_2 l0_3 a0_4 a0_5 a0_6 l0_7 a0_8 l0_9 a0_10 a0_11 l0_12 a0_13 (([7] : List Int))).bind fun t357 => (if t357 = true then ((impl_within.f a0_4 1 3).bind fun t358 => (impl_Cmd_areNumbers.j0 k (!t358) a0_0 a0_1 a0_2 l0_3 a0_4 a0_5 a0_6 l0_7 a0_8 l0_9 a0_10 a0_11 l0_12 a0_13)) else (impl_Cmd_areNumbers.j0 k false a0_0 a0_1 a0_2 l0_3 a0_4 a0_5 a0_6 l0_7 a0_8 l0_9 a0_10 a0_11 l0_12 a0_13))) = some r := h
 clear h
 have HC2 := Aside0.mk H
 clear H
 go_enter Try.func43, Try.ntmps43
 go_upto_region 1 with (first | ((with_reducible refine gate_dst (N := 1) rfl ?_); refine box_event ?hg (N := 1) ?hd (cs := #[.string a0_0, .int .i64 a0_1, .string a0_2, .slice A0_3 l0_3.length c0_3, .int .i64 a0_4, .int .i64 a0_5, .int .i64 a0_6, .slice A0_7 l0_7.length c0_7, .int .i64 a0_8, .slice A0_9 l0_9.length c0_9, .int .i64 a0_10, .bool a0_11, .slice A0_12 l0_12.length c0_12, .int .i64 a0_13]) (t := 33) ?hr ?_; (case hd => rfl); (case hg => rfl); (case hr => first | (go_simp; done) | (go_simp; rfl)); intro gb353 hg w3 hbox hb; have n0_ := Aside0.mk (below_step (HB_up HB.out) hb); have n1_ := Aside0.mk (hbox); have n2_ := Aside0.mk ((by rw [hg]; exact (below_size (HB_up HB.out)) : w.heap.size ≤ gb353)); have n3_ := Aside0.mk ((by rw [hg]; exact (below_size (HB_up HB.out)) : w.heap.size ≤ gb353)); clear HB; have HB := n0_; have BK353 := n1_; have GW353 := n2_; have GE353 := n3_; clear n0_ n1_ n2_ n3_; clear hb hbox hg))
 (try simp only [Act.put, List.setIfInBounds_toArray, List.set_cons_zero, List.set_cons_succ])
 go_cut [3] (fun v3 wc => ∃ (kq : Nat) (x3_1 : Bool), v3 = .bool x3_1 ∧ Aside0 (impl_Cmd_areNumbers.j0 kq x3_1 a0_0 a0_1 a0_2 l0_3 a0_4 a0_5 a0_6 l0_7 a0_8 l0_9 a0_10 a0_11 l0_12 a0_13 = some r) ∧ Aside0 (kq ≤ k) ∧ Aside0 (wc.heap[gb353]? = some (.cells #[.string a0_0, .int .i64 a0_1, .string a0_2, (.slice A0_3 l0_3.length c0_3), .int .i64 a0_4, .int .i64 a0_5, .int .i64 a0_6, (.slice A0_7 l0_7.length c0_7), .int .i64 a0_8, (.slice A0_9 l0_9.length c0_9), .int .i64 a0_10, .bool a0_11, (.slice A0_12 l0_12.length c0_12), .int .i64 a0_13] 33 (0, 0))) ∧ Aside0 (Below w.heap.size w wc))
 case first =>
  have H := HC2.out
  clear HC2
  obtain ⟨y354, hy354⟩ : ∃ y_ : List Int, y_ = (([7] : List Int)) := ⟨_, rfl⟩
  replace H : ((impl_Cmd_is.f k a0_0 a0_1 a0_2 l0_3 a0_4 a0_5 a0_6 l0_7 a0_8 l0_9 a0_10 a0_11 l0_12 a0_13 y354).bind fun t357 => (if t357 = true then ((impl_within.f a0_4 1 3).bind fun t358 => (impl_Cmd_areNumbers.j0 k (!t358) a0_0 a0_1 a0_2 l0_3 a0_4 a0_5 a0_6 l0_7 a0_8 l0_9 a0_10 a0_11 l0_12 a0_13)) else (impl_Cmd_areNumbers.j0 k false a0_0 a0_1 a0_2 l0_3 a0_4 a0_5 a0_6 l0_7 a0_8 l0_9 a0_10 a0_11 l0_12 a0_13))) = some r := by first | (rw [hy354]; with_reducible exact H) | (have H2_ := (Option.bind_some _ _).symm.trans H; rw [hy354]; with_reducible exact H2_) | (have H2_ := (Option.bind_some _ _).symm.trans H; with_reducible exact H2_) | with_reducible exact H | (rw [hy354]; exact H) | exact H
  have Ny354 := Aside0.mk hy354
  clear hy354
  replace H := Option.bind_eq_some_iff.mp H
  obtain ⟨t357, A40, H⟩ := H
  (try dsimp only at H)
  have A4 := Aside0.mk A40
  clear A40
  by_cases c5 : t357 = true
  ·
   subst c5
   (try rw [if_pos rfl] at H)
   replace H := Option.bind_eq_some_iff.mp H
   obtain ⟨t358, A60, H⟩ := H
   (try dsimp only at H)
   have A6 := Aside0.mk A60
   clear A60
   have H' := Aside0.mk H
   clear H
   obtain ⟨_, _, _, _, _, _, _, _, _, _, _, _, _, _⟩ := blk_cells14 BK353.out
   obtain ⟨_, _, _, _, _, _, _, _, _, _, _, _, _, _⟩ := blk_frozen14 BK353.out
   go_wp2_with (first | ((with_reducible refine gate_dst (N := 5) rfl ?_); refine Kd.R_lit (Kd.int .i64) _ 2 ?hg (N := 5) ?hd (xs := ([7] : List Int)) (inner := [.int .i64 7]) (ok := fun _ => True) (okp := fun _ => True) ?hr ?hp (fun _ hk => hk) trivial (Below.refl _ _) (Nat.le_refl _) (by simp) ?_; (case hd => rfl); (case hg => rfl); (case hr => first | (go_simp; done) | (go_simp; rfl)); (case hp => exact (Reps.one (show Kd.M (Kd.int .i64) _ _ _ 7 [.int .i64 7] from rfl) (Reps.none _ _))); intro v355 w8 ho9 hb hg_ hnew_; clear hg_ hnew_; (first | rw [← Ny354.out] at ho9 | (simp only [Int.reduceToNat] at ho9; rw [← Ny354.out] at ho9)); have HO356 := Aside0.mk (Kd.R_lower ho9 (below_size (HB_up HB.out))); replace BK353 := Aside0.mk (blk_below (g := gb353) (blk_up BK353.out) hb); replace HB := Aside0.mk (below_step (HB_up HB.out) hb); clear hb ho9; obtain ⟨Ao10, co10, eo10⟩ := Kd.R_slice HO356.out; subst eo10) | ((with_reducible refine gate_callee (f := 80) rfl ?_); refine goesY_ (some 6) Try.func80 #[.agg #[.string a0_0, .int .i64 a0_1, .string a0_2, .slice A0_3 l0_3.length c0_3, .int .i64 a0_4, .int .i64 a0_5, .int .i64 a0_6, .slice A0_7 l0_7.length c0_7, .int .i64 a0_8, .slice A0_9 l0_9.length c0_9, .int .i64 a0_10, .bool a0_11, .slice A0_12 l0_12.length c0_12, .int .i64 a0_13], .slice Ao10 y354.length co10] rfl ?_; (with_reducible refine (impl_Cmd_is.calls k a0_0 a0_1 a0_2 _ _ l0_3 a0_4 a0_5 a0_6 _ _ l0_7 a0_8 _ _ l0_9 a0_10 a0_11 _ _ l0_12 a0_13 _ _ y354 true _ ?_ ?_ ?_ ?_ ?_ ?_ ?_ ?_ ?_ ?_ A4.out).mono ?_); exact C_up (Kd.C_below HR0_3.out HB.out); exact HC0_3.out; exact C_up (Kd.C_below HR0_7.out HB.out); exact HC0_7.out; exact C_up (Kd.C_below HR0_9.out HB.out); exact HC0_9.out; exact C_up (Kd.C_below HR0_12.out HB.out); exact HC0_12.out; exact C_up (Kd.R_reads' HO356.out).2.2; exact (Kd.R_reads' HO356.out).2.1; rintro e w11 ⟨rfl, hb⟩; refine ⟨_, rfl, ?_⟩; replace HO356 := Aside0.mk (Kd.R_below (R_up HO356.out) hb); replace BK353 := Aside0.mk (blk_below (g := gb353) (blk_up BK353.out) hb); replace HB := Aside0.mk (below_step (HB_up HB.out) hb); (try clear hb); obtain ⟨_, _, _, _, _, _, _, _, _, _, _, _, _, _⟩ := blk_cells14 BK353.out; obtain ⟨_, _, _, _, _, _, _, _, _, _, _, _, _, _⟩ := blk_frozen14 BK353.out) | (go_at_call 37; (with_reducible refine (impl_within.calls a0_4 1 3 t358 _ A6.out).mono ?_); rintro e w' ⟨rfl, ⟨nd, rfl⟩⟩))
   go_meet
   case rel => exact ⟨_, (!t358), vl_, H', ⟨le_⟩, ⟨blk_up BK353.out⟩, ⟨hs_⟩⟩
  ·
   replace c5 := Bool.eq_false_iff.mpr c5
   subst c5
   (try rw [if_neg (show ¬ (false = true) by decide)] at H)
   have H' := Aside0.mk H
   clear H
   obtain ⟨hcz13_0, hcz13_1, _, _, _, _, _, _, _, _, _, _, _, _⟩ := blk_cells14 BK353.out
   obtain ⟨hfz13_0, hfz13_1, _, _, _, _, _, _, _, _, _, _, _, _⟩ := blk_frozen14 BK353.out
   go_wp2_with (first | ((with_reducible refine gate_dst (N := 5) rfl ?_); refine Kd.R_lit (Kd.int .i64) _ 2 ?hg (N := 5) ?hd (xs := ([7] : List Int)) (inner := [.int .i64 7]) (ok := fun _ => True) (okp := fun _ => True) ?hr ?hp (fun _ hk => hk) trivial (Below.refl _ _) (Nat.le_refl _) (by simp) ?_; (case hd => rfl); (case hg => rfl); (case hr => first | (go_simp; done) | (go_simp; rfl)); (case hp => exact (Reps.one (show Kd.M (Kd.int .i64) _ _ _ 7 [.int .i64 7] from rfl) (Reps.none _ _))); intro v355 w14 ho15 hb hg_ hnew_; clear hg_ hnew_; (first | rw [← Ny354.out] at ho15 | (simp only [Int.reduceToNat] at ho15; rw [← Ny354.out] at ho15)); have HO356 := Aside0.mk (Kd.R_lower ho15 (below_size (HB_up HB.out))); replace BK353 := Aside0.mk (blk_below (g := gb353) (blk_up BK353.out) hb); replace HB := Aside0.mk (below_step (HB_up HB.out) hb); clear hb ho15; obtain ⟨Ao16, co16, eo16⟩ := Kd.R_slice HO356.out; subst eo16) | ((with_reducible refine gate_callee (f := 80) rfl ?_); refine goesY_ (some 6) Try.func80 #[.agg #[.string a0_0, .int .i64 a0_1, .string a0_2, .slice A0_3 l0_3.length c0_3, .int .i64 a0_4, .int .i64 a0_5, .int .i64 a0_6, .slice A0_7 l0_7.length c0_7, .int .i64 a0_8, .slice A0_9 l0_9.length c0_9, .int .i64 a0_10, .bool a0_11, .slice A0_12 l0_12.length c0_12, .int .i64 a0_13], .slice Ao16 y354.length co16] rfl ?_; (with_reducible refine (impl_Cmd_is.calls k a0_0 a0_1 a0_2 _ _ l0_3 a0_4 a0_5 a0_6 _ _ l0_7 a0_8 _ _ l0_9 a0_10 a0_11 _ _ l0_12 a0_13 _ _ y354 false _ ?_ ?_ ?_ ?_ ?_ ?_ ?_ ?_ ?_ ?_ A4.out).mono ?_); exact C_up (Kd.C_below HR0_3.out HB.out); exact HC0_3.out; exact C_up (Kd.C_below HR0_7.out HB.out); exact HC0_7.out; exact C_up (Kd.C_below HR0_9.out HB.out); exact HC0_9.out; exact C_up (Kd.C_below HR0_12.out HB.out); exact HC0_12.out; exact C_up (Kd.R_reads' HO356.out).2.2; exact (Kd.R_reads' HO356.out).2.1; rintro e w17 ⟨rfl, hb⟩; refine ⟨_, rfl, ?_⟩; replace HO356 := Aside0.mk (Kd.R_below (R_up HO356.out) hb); replace BK353 := Aside0.mk (blk_below (g := gb353) (blk_up BK353.out) hb); replace HB := Aside0.mk (below_step (HB_up HB.out) hb); (try clear hb)))
   go_meet
   case rel => exact ⟨_, (false), vl_, H', ⟨le_⟩, ⟨blk_up BK353.out⟩, ⟨hs_⟩⟩
 case rest =>
  clear HC2
  obtain ⟨kq, x3_1, rfl, HA, HJ1, BK353, HB⟩ := hcut
  cases kq with
  | zero => exact absurd HA.out (by simp [impl_Cmd_areNumbers.j0])
  | succ kj1 =>
    have H := HA.out
    clear HA
    simp only [impl_Cmd_areNumbers.j0] at H
    have HC18 := Aside0.mk H
    clear H
    go_upto_if 3 with (fail)
    go_cut [3] (fun v3 wc => ∃ (kq : Nat) (x3_17 : Bool), v3 = .bool x3_17 ∧ Aside0 (impl_Cmd_areNumbers.j1 kq x3_17 a0_0 a0_1 a0_2 l0_3 a0_4 a0_5 a0_6 l0_7 a0_8 l0_9 a0_10 a0_11 l0_12 a0_13 = some r) ∧ Aside0 (kq ≤ kj1) ∧ Aside0 (wc.heap[gb353]? = some (.cells #[.string a0_0, .int .i64 a0_1, .string a0_2, (.slice A0_3 l0_3.length c0_3), .int .i64 a0_4, .int .i64 a0_5, .int .i64 a0_6, (.slice A0_7 l0_7.length c0_7), .int .i64 a0_8, (.slice A0_9 l0_9.length c0_9), .int .i64 a0_10, .bool a0_11, (.slice A0_12 l0_12.length c0_12), .int .i64 a0_13] 33 (0, 0))) ∧ Aside0 (Below w.heap.size w wc))
    case first =>
     have H := HC18.out
     clear HC18
     by_cases c19 : x3_1 = true
     ·
      subst c19
      (try rw [if_pos rfl] at H)
      have H' := Aside0.mk H
      clear H
      go_wp2
      go_meet
      case rel => exact ⟨_, (true), vl_, H', ⟨by have := HJ1.out; first | omega | exact Nat.le_refl _⟩, ⟨blk_up BK353.out⟩, ⟨hs_⟩⟩
     ·
      replace c19 := Bool.eq_false_iff.mpr c19
      subst c19
      (try rw [if_neg (show ¬ (false = true) by decide)] at H)
      replace H := Option.bind_eq_some_iff.mp H
      obtain ⟨t359, A200, H⟩ := H
      (try dsimp only at H)
      have A20 := Aside0.mk A200
      clear A200
      by_cases c21 : t359 = true
      ·
       subst c21
       (try rw [if_pos rfl] at H)
       replace H := Option.bind_eq_some_iff.mp H
       obtain ⟨t360, A220, H⟩ := H
       (try dsimp only at H)
       have A22 := Aside0.mk A220
       clear A220
       by_cases c23 : t360 = true
       ·
        subst c23
        (try rw [if_pos rfl] at H)
        obtain ⟨y361, hy361⟩ : ∃ y_ : List Int, y_ = (([11] : List Int)) := ⟨_, rfl⟩
        replace H : ((impl_Cmd_is.f kj1 a0_0 a0_1 a0_2 l0_3 a0_4 a0_5 a0_6 l0_7 a0_8 l0_9 a0_10 a0_11 l0_12 a0_13 y361).bind fun t364 => (if t364 = true then ((impl_within.f a0_8 1 7).bind fun t365 => (impl_Cmd_areNumbers.j1 kj1 (!t365) a0_0 a0_1 a0_2 l0_3 a0_4 a0_5 a0_6 l0_7 a0_8 l0_9 a0_10 a0_11 l0_12 a0_13)) else (impl_Cmd_areNumbers.j1 kj1 false a0_0 a0_1 a0_2 l0_3 a0_4 a0_5 a0_6 l0_7 a0_8 l0_9 a0_10 a0_11 l0_12 a0_13))) = some r := by first | (rw [hy361]; with_reducible exact H) | (have H2_ := (Option.bind_some _ _).symm.trans H; rw [hy361]; with_reducible exact H2_) | (have H2_ := (Option.bind_some _ _).symm.trans H; with_reducible exact H2_) | with_reducible exact H | (rw [hy361]; exact H) | exact H
        have Ny361 := Aside0.mk hy361
        clear hy361
        replace H := Option.bind_eq_some_iff.mp H
        obtain ⟨t364, A240, H⟩ := H
        (try dsimp only at H)
        have A24 := Aside0.mk A240
        clear A240
        by_cases c25 : t364 = true
        ·
         subst c25
         (try rw [if_pos rfl] at H)
         replace H := Option.bind_eq_some_iff.mp H
         obtain ⟨t365, A260, H⟩ := H
         (try dsimp only at H)
         have A26 := Aside0.mk A260
         clear A260
         have H' := Aside0.mk H
         clear H
         obtain ⟨_, _, _, _, _, _, _, _, _, _, _, _, _, _⟩ := blk_cells14 BK353.out
         obtain ⟨_, _, _, _, _, _, _, _, _, _, _, _, _, _⟩ := blk_frozen14 BK353.out
         go_wp2_with (first | ((with_reducible refine gate_callee (f := 85) rfl ?_); refine goesY_ (some 15) Try.func85 #[.int .i64 a0_5] rfl ?_; (with_reducible refine (impl_areFlags.calls a0_5 true _ A20.out).mono ?_); rintro e w' ⟨rfl, ⟨nd, rfl⟩⟩; refine ⟨_, rfl, ?_⟩) | ((with_reducible refine gate_callee (f := 86) rfl ?_); refine goesY_ (some 19) Try.func86 #[.int .i64 a0_6] rfl ?_; (with_reducible refine (impl_isDate.calls a0_6 true _ A22.out).mono ?_); rintro e w' ⟨rfl, ⟨nd, rfl⟩⟩; refine ⟨_, rfl, ?_⟩) | ((with_reducible refine gate_dst (N := 22) rfl ?_); refine Kd.R_lit (Kd.int .i64) _ 2 ?hg (N := 22) ?hd (xs := ([11] : List Int)) (inner := [.int .i64 11]) (ok := fun _ => True) (okp := fun _ => True) ?hr ?hp (fun _ hk => hk) trivial (Below.refl _ _) (Nat.le_refl _) (by simp) ?_; (case hd => rfl); (case hg => rfl); (case hr => first | (go_simp; done) | (go_simp; rfl)); (case hp => exact (Reps.one (show Kd.M (Kd.int .i64) _ _ _ 11 [.int .i64 11] from rfl) (Reps.none _ _))); intro v362 w28 ho29 hb hg_ hnew_; clear hg_ hnew_; (first | rw [← Ny361.out] at ho29 | (simp only [Int.reduceToNat] at ho29; rw [← Ny361.out] at ho29)); have HO363 := Aside0.mk (Kd.R_lower ho29 (below_size (HB_up HB.out))); replace BK353 := Aside0.mk (blk_below (g := gb353) (blk_up BK353.out) hb); replace HB := Aside0.mk (below_step (HB_up HB.out) hb); clear hb ho29; obtain ⟨Ao30, co30, eo30⟩ := Kd.R_slice HO363.out; subst eo30) | ((with_reducible refine gate_callee (f := 80) rfl ?_); refine goesY_ (some 23) Try.func80 #[.agg #[.string a0_0, .int .i64 a0_1, .string a0_2, .slice A0_3 l0_3.length c0_3, .int .i64 a0_4, .int .i64 a0_5, .int .i64 a0_6, .slice A0_7 l0_7.length c0_7, .int .i64 a0_8, .slice A0_9 l0_9.length c0_9, .int .i64 a0_10, .bool a0_11, .slice A0_12 l0_12.length c0_12, .int .i64 a0_13], .slice Ao30 y361.length co30] rfl ?_; (with_reducible refine (impl_Cmd_is.calls kj1 a0_0 a0_1 a0_2 _ _ l0_3 a0_4 a0_5 a0_6 _ _ l0_7 a0_8 _ _ l0_9 a0_10 a0_11 _ _ l0_12 a0_13 _ _ y361 true _ ?_ ?_ ?_ ?_ ?_ ?_ ?_ ?_ ?_ ?_ A24.out).mono ?_); exact C_up (Kd.C_below HR0_3.out HB.out); exact HC0_3.out; exact C_up (Kd.C_below HR0_7.out HB.out); exact HC0_7.out; exact C_up (Kd.C_below HR0_9.out HB.out); exact HC0_9.out; exact C_up (Kd.C_below HR0_12.out HB.out); exact HC0_12.out; exact C_up (Kd.R_reads' HO363.out).2.2; exact (Kd.R_reads' HO363.out).2.1; rintro e w31 ⟨rfl, hb⟩; refine ⟨_, rfl, ?_⟩; replace HO363 := Aside0.mk (Kd.R_below (R_up HO363.out) hb); replace BK353 := Aside0.mk (blk_below (g := gb353) (blk_up BK353.out) hb); replace HB := Aside0.mk (below_step (HB_up HB.out) hb); (try clear hb); obtain ⟨_, _, _, _, _, _, _, _, _, _, _, _, _, _⟩ := blk_cells14 BK353.out; obtain ⟨_, _, _, _, _, _, _, _, _, _, _, _, _, _⟩ := blk_frozen14 BK353.out) | (go_at_call 37; (with_reducible refine (impl_within.calls a0_8 1 7 t365 _ A26.out).mono ?_); rintro e w' ⟨rfl, ⟨nd, rfl⟩⟩))
         go_meet
         case rel => exact ⟨_, (!t365), vl_, H', ⟨by have := HJ1.out; first | omega | exact Nat.le_refl _⟩, ⟨blk_up BK353.out⟩, ⟨hs_⟩⟩
        ·
         replace c25 := Bool.eq_false_iff.mpr c25
         subst c25
         (try rw [if_neg (show ¬ (false = true) by decide)] at H)
         have H' := Aside0.mk H
         clear H
         obtain ⟨_, _, _, _, _, _, _, _, _, _, _, _, _, _⟩ := blk_cells14 BK353.out
         obtain ⟨_, _, _, _, _, _, _, _, _, _, _, _, _, _⟩ := blk_frozen14 BK353.out
         go_wp2_with (first | ((with_reducible refine gate_callee (f := 85) rfl ?_); refine goesY_ (some 15) Try.func85 #[.int .i64 a0_5] rfl ?_; (with_reducible refine (impl_areFlags.calls a0_5 true _ A20.out).mono ?_); rintro e w' ⟨rfl, ⟨nd, rfl⟩⟩; refine ⟨_, rfl, ?_⟩) | ((with_reducible refine gate_callee (f := 86) rfl ?_); refine goesY_ (some 19) Try.func86 #[.int .i64 a0_6] rfl ?_; (with_reducible refine (impl_isDate.calls a0_6 true _ A22.out).mono ?_); rintro e w' ⟨rfl, ⟨nd, rfl⟩⟩; refine ⟨_, rfl, ?_⟩) | ((with_reducible refine gate_dst (N := 22) rfl ?_); refine Kd.R_lit (Kd.int .i64) _ 2 ?hg (N := 22) ?hd (xs := ([11] : List Int)) (inner := [.int .i64 11]) (ok := fun _ => True) (okp := fun _ => True) ?hr ?hp (fun _ hk => hk) trivial (Below.refl _ _) (Nat.le_refl _) (by simp) ?_; (case hd => rfl); (case hg => rfl); (case hr => first | (go_simp; done) | (go_simp; rfl)); (case hp => exact (Reps.one (show Kd.M (Kd.int .i64) _ _ _ 11 [.int .i64 11] from rfl) (Reps.none _ _))); intro v362 w34 ho35 hb hg_ hnew_; clear hg_ hnew_; (first | rw [← Ny361.out] at ho35 | (simp only [Int.reduceToNat] at ho35; rw [← Ny361.out] at ho35)); have HO363 := Aside0.mk (Kd.R_lower ho35 (below_size (HB_up HB.out))); replace BK353 := Aside0.mk (blk_below (g := gb353) (blk_up BK353.out) hb); replace HB := Aside0.mk (below_step (HB_up HB.out) hb); clear hb ho35; obtain ⟨Ao36, co36, eo36⟩ := Kd.R_slice HO363.out; subst eo36) | ((with_reducible refine gate_callee (f := 80) rfl ?_); refine goesY_ (some 23) Try.func80 #[.agg #[.string a0_0, .int .i64 a0_1, .string a0_2, .slice A0_3 l0_3.length c0_3, .int .i64 a0_4, .int .i64 a0_5, .int .i64 a0_6, .slice A0_7 l0_7.length c0_7, .int .i64 a0_8, .slice A0_9 l0_9.length c0_9, .int .i64 a0_10, .bool a0_11, .slice A0_12 l0_12.length c0_12, .int .i64 a0_13], .slice Ao36 y361.length co36] rfl ?_; (with_reducible refine (impl_Cmd_is.calls kj1 a0_0 a0_1 a0_2 _ _ l0_3 a0_4 a0_5 a0_6 _ _ l0_7 a0_8 _ _ l0_9 a0_10 a0_11 _ _ l0_12 a0_13 _ _ y361 false _ ?_ ?_ ?_ ?_ ?_ ?_ ?_ ?_ ?_ ?_ A24.out).mono ?_); exact C_up (Kd.C_below HR0_3.out HB.out); exact HC0_3.out; exact C_up (Kd.C_below HR0_7.out HB.out); exact HC0_7.out; exact C_up (Kd.C_below HR0_9.out HB.out); exact HC0_9.out; exact C_up (Kd.C_below HR0_12.out HB.out); exact HC0_12.out; exact C_up (Kd.R_reads' HO363.out).2.2; exact (Kd.R_reads' HO363.out).2.1; rintro e w37 ⟨rfl, hb⟩; refine ⟨_, rfl, ?_⟩; replace HO363 := Aside0.mk (Kd.R_below (R_up HO363.out) hb); replace BK353 := Aside0.mk (blk_below (g := gb353) (blk_up BK353.out) hb); replace HB := Aside0.mk (below_step (HB_up HB.out) hb); (try clear hb)))
         go_meet
         case rel => exact ⟨_, (false), vl_, H', ⟨by have := HJ1.out; first | omega | exact Nat.le_refl _⟩, ⟨blk_up BK353.out⟩, ⟨hs_⟩⟩
       ·
        replace c23 := Bool.eq_false_iff.mpr c23
        subst c23
        (try rw [if_neg (show ¬ (false = true) by decide)] at H)
        have H' := Aside0.mk H
        clear H
        obtain ⟨_, _, _, _, _, _, _, _, _, _, _, _, _, _⟩ := blk_cells14 BK353.out
        obtain ⟨_, _, _, _, _, _, _, _, _, _, _, _, _, _⟩ := blk_frozen14 BK353.out
        go_wp2_with (first | ((with_reducible refine gate_callee (f := 85) rfl ?_); refine goesY_ (some 15) Try.func85 #[.int .i64 a0_5] rfl ?_; (with_reducible refine (impl_areFlags.calls a0_5 true _ A20.out).mono ?_); rintro e w' ⟨rfl, ⟨nd, rfl⟩⟩; refine ⟨_, rfl, ?_⟩) | ((with_reducible refine gate_callee (f := 86) rfl ?_); refine goesY_ (some 19) Try.func86 #[.int .i64 a0_6] rfl ?_; (with_reducible refine (impl_isDate.calls a0_6 false _ A22.out).mono ?_); rintro e w' ⟨rfl, ⟨nd, rfl⟩⟩; refine ⟨_, rfl, ?_⟩))
        go_meet
        case rel => exact ⟨_, (!false), vl_, H', ⟨by have := HJ1.out; first | omega | exact Nat.le_refl _⟩, ⟨blk_up BK353.out⟩, ⟨hs_⟩⟩
      ·
       replace c21 := Bool.eq_false_iff.mpr c21
       subst c21
       (try rw [if_neg (show ¬ (false = true) by decide)] at H)
       have H' := Aside0.mk H
       clear H
       obtain ⟨_, _, _, _, _, _, _, _, _, _, _, _, _, _⟩ := blk_cells14 BK353.out
       obtain ⟨_, _, _, _, _, _, _, _, _, _, _, _, _, _⟩ := blk_frozen14 BK353.out
       go_wp2_with (first | ((with_reducible refine gate_callee (f := 85) rfl ?_); refine goesY_ (some 15) Try.func85 #[.int .i64 a0_5] rfl ?_; (with_reducible refine (impl_areFlags.calls a0_5 false _ A20.out).mono ?_); rintro e w' ⟨rfl, ⟨nd, rfl⟩⟩; refine ⟨_, rfl, ?_⟩))
       go_meet
       case rel => exact ⟨_, (!false), vl_, H', ⟨by have := HJ1.out; first | omega | exact Nat.le_refl _⟩, ⟨blk_up BK353.out⟩, ⟨hs_⟩⟩
    case rest =>
     clear HC18
     obtain ⟨kq, x3_17, rfl, HA, HJ17, BK353, HB⟩ := hcut
     cases kq with
     | zero => exact absurd HA.out (by simp [impl_Cmd_areNumbers.j1])
     | succ kj17 =>
       have H := HA.out
       clear HA
       simp only [impl_Cmd_areNumbers.j1] at H
       by_cases c40 : x3_17 = true
       ·
        subst c40
        (try rw [if_pos rfl] at H)
        obtain rfl := Option.some.inj H
        go_wp2
        go_ret
        exact ⟨ve_, hs_⟩
       ·
        replace c40 := Bool.eq_false_iff.mpr c40
        subst c40
        (try rw [if_neg (show ¬ (false = true) by decide)] at H)
        replace H := Option.bind_eq_some_iff.mp H
        obtain ⟨t366, A410, H⟩ := H
        (try dsimp only at H)
        have A41 := Aside0.mk A410
        clear A410
        by_cases c42 : t366 = true
        ·
         subst c42
         (try rw [if_pos rfl] at H)
         have HC43 := Aside0.mk H
         clear H
         obtain ⟨hcz44_0, hcz44_1, hcz44_2, hcz44_3, hcz44_4, hcz44_5, hcz44_6, hcz44_7, hcz44_8, hcz44_9, hcz44_10, hcz44_11, hcz44_12, hcz44_13⟩ := blk_cells14 BK353.out
         obtain ⟨hfz44_0, hfz44_1, hfz44_2, hfz44_3, hfz44_4, hfz44_5, hfz44_6, hfz44_7, hfz44_8, hfz44_9, hfz44_10, hfz44_11, hfz44_12, hfz44_13⟩ := blk_frozen14 BK353.out
         go_upto_region 7 with (first | ((with_reducible refine gate_callee (f := 87) rfl ?_); refine goesY_ (some 33) Try.func87 #[.slice A0_9 l0_9.length c0_9] rfl ?_; (with_reducible refine (impl_isPath.calls kj17 _ _ l0_9 true _ ?_ ?_ A41.out).mono ?_); exact C_up (Kd.C_below HR0_9.out HB.out); exact HC0_9.out; rintro e w45 ⟨rfl, hb⟩; refine ⟨_, rfl, ?_⟩; replace BK353 := Aside0.mk (blk_below (g := gb353) (blk_up BK353.out) hb); replace HB := Aside0.mk (below_step (HB_up HB.out) hb); (try clear hb)))
         (try simp only [Act.put, List.setIfInBounds_toArray, List.set_cons_zero, List.set_cons_succ])
         go_cut [30] (fun v30 wc => ∃ (kq : Nat) (x30_42 : Bool), v30 = .bool x30_42 ∧ Aside0 (impl_Cmd_areNumbers.j2 kq x30_42 a0_0 a0_1 a0_2 l0_3 a0_4 a0_5 a0_6 l0_7 a0_8 l0_9 a0_10 a0_11 l0_12 a0_13 = some r) ∧ Aside0 (kq ≤ kj17) ∧ Aside0 (wc.heap[gb353]? = some (.cells #[.string a0_0, .int .i64 a0_1, .string a0_2, (.slice A0_3 l0_3.length c0_3), .int .i64 a0_4, .int .i64 a0_5, .int .i64 a0_6, (.slice A0_7 l0_7.length c0_7), .int .i64 a0_8, (.slice A0_9 l0_9.length c0_9), .int .i64 a0_10, .bool a0_11, (.slice A0_12 l0_12.length c0_12), .int .i64 a0_13] 33 (0, 0))) ∧ Aside0 (Below w.heap.size w wc))
         case first =>
          have H := HC43.out
          clear HC43
          obtain ⟨y367, hy367⟩ : ∃ y_ : List Int, y_ = (([13] : List Int)) := ⟨_, rfl⟩
          replace H : ((impl_Cmd_is.f kj17 a0_0 a0_1 a0_2 l0_3 a0_4 a0_5 a0_6 l0_7 a0_8 l0_9 a0_10 a0_11 l0_12 a0_13 y367).bind fun t370 => (if t370 = true then ((impl_isKey.f a0_10).bind fun t371 => (impl_Cmd_areNumbers.j2 kj17 (!t371) a0_0 a0_1 a0_2 l0_3 a0_4 a0_5 a0_6 l0_7 a0_8 l0_9 a0_10 a0_11 l0_12 a0_13)) else (impl_Cmd_areNumbers.j2 kj17 false a0_0 a0_1 a0_2 l0_3 a0_4 a0_5 a0_6 l0_7 a0_8 l0_9 a0_10 a0_11 l0_12 a0_13))) = some r := by first | (rw [hy367]; with_reducible exact H) | (have H2_ := (Option.bind_some _ _).symm.trans H; rw [hy367]; with_reducible exact H2_) | (have H2_ := (Option.bind_some _ _).symm.trans H; with_reducible exact H2_) | with_reducible exact H | (rw [hy367]; exact H) | exact H
          have Ny367 := Aside0.mk hy367
          clear hy367
          replace H := Option.bind_eq_some_iff.mp H
          obtain ⟨t370, A460, H⟩ := H
          (try dsimp only at H)
          have A46 := Aside0.mk A460
          clear A460
          by_cases c47 : t370 = true
          ·
           subst c47
           (try rw [if_pos rfl] at H)
           replace H := Option.bind_eq_some_iff.mp H
           obtain ⟨t371, A480, H⟩ := H
           (try dsimp only at H)
           have A48 := Aside0.mk A480
           clear A480
           have H' := Aside0.mk H
           clear H
           obtain ⟨_, _, _, _, _, _, _, _, _, _, _, _, _, _⟩ := blk_cells14 BK353.out
           obtain ⟨_, _, _, _, _, _, _, _, _, _, _, _, _, _⟩ := blk_frozen14 BK353.out
           go_wp2_with (first | ((with_reducible refine gate_dst (N := 36) rfl ?_); refine Kd.R_lit (Kd.int .i64) _ 2 ?hg (N := 36) ?hd (xs := ([13] : List Int)) (inner := [.int .i64 13]) (ok := fun _ => True) (okp := fun _ => True) ?hr ?hp (fun _ hk => hk) trivial (Below.refl _ _) (Nat.le_refl _) (by simp) ?_; (case hd => rfl); (case hg => rfl); (case hr => first | (go_simp; done) | (go_simp; rfl)); (case hp => exact (Reps.one (show Kd.M (Kd.int .i64) _ _ _ 13 [.int .i64 13] from rfl) (Reps.none _ _))); intro v368 w50 ho51 hb hg_ hnew_; clear hg_ hnew_; (first | rw [← Ny367.out] at ho51 | (simp only [Int.reduceToNat] at ho51; rw [← Ny367.out] at ho51)); have HO369 := Aside0.mk (Kd.R_lower ho51 (below_size (HB_up HB.out))); replace BK353 := Aside0.mk (blk_below (g := gb353) (blk_up BK353.out) hb); replace HB := Aside0.mk (below_step (HB_up HB.out) hb); clear hb ho51; obtain ⟨Ao52, co52, eo52⟩ := Kd.R_slice HO369.out; subst eo52) | ((with_reducible refine gate_callee (f := 80) rfl ?_); refine goesY_ (some 37) Try.func80 #[.agg #[.string a0_0, .int .i64 a0_1, .string a0_2, .slice A0_3 l0_3.length c0_3, .int .i64 a0_4, .int .i64 a0_5, .int .i64 a0_6, .slice A0_7 l0_7.length c0_7, .int .i64 a0_8, .slice A0_9 l0_9.length c0_9, .int .i64 a0_10, .bool a0_11, .slice A0_12 l0_12.length c0_12, .int .i64 a0_13], .slice Ao52 y367.length co52] rfl ?_; (with_reducible refine (impl_Cmd_is.calls kj17 a0_0 a0_1 a0_2 _ _ l0_3 a0_4 a0_5 a0_6 _ _ l0_7 a0_8 _ _ l0_9 a0_10 a0_11 _ _ l0_12 a0_13 _ _ y367 true _ ?_ ?_ ?_ ?_ ?_ ?_ ?_ ?_ ?_ ?_ A46.out).mono ?_); exact C_up (Kd.C_below HR0_3.out HB.out); exact HC0_3.out; exact C_up (Kd.C_below HR0_7.out HB.out); exact HC0_7.out; exact C_up (Kd.C_below HR0_9.out HB.out); exact HC0_9.out; exact C_up (Kd.C_below HR0_12.out HB.out); exact HC0_12.out; exact C_up (Kd.R_reads' HO369.out).2.2; exact (Kd.R_reads' HO369.out).2.1; rintro e w53 ⟨rfl, hb⟩; refine ⟨_, rfl, ?_⟩; replace HO369 := Aside0.mk (Kd.R_below (R_up HO369.out) hb); replace BK353 := Aside0.mk (blk_below (g := gb353) (blk_up BK353.out) hb); replace HB := Aside0.mk (below_step (HB_up HB.out) hb); (try clear hb); obtain ⟨_, _, _, _, _, _, _, _, _, _, _, _, _, _⟩ := blk_cells14 BK353.out; obtain ⟨_, _, _, _, _, _, _, _, _, _, _, _, _, _⟩ := blk_frozen14 BK353.out) | (go_at_call 88; (with_reducible refine (impl_isKey.calls a0_10 t371 _ A48.out).mono ?_); rintro e w' ⟨rfl, ⟨nd, rfl⟩⟩))
           go_meet
           case rel => exact ⟨_, (!t371), vl_, H', ⟨by have := HJ1.out; have := HJ17.out; first | omega | exact Nat.le_refl _⟩, ⟨blk_up BK353.out⟩, ⟨hs_⟩⟩
          ·
           replace c47 := Bool.eq_false_iff.mpr c47
           subst c47
           (try rw [if_neg (show ¬ (false = true) by decide)] at H)
           have H' := Aside0.mk H
           clear H
           obtain ⟨_, _, _, _, _, _, _, _, _, _, _, _, _, _⟩ := blk_cells14 BK353.out
           obtain ⟨_, _, _, _, _, _, _, _, _, _, _, _, _, _⟩ := blk_frozen14 BK353.out
           go_wp2_with (first | ((with_reducible refine gate_dst (N := 36) rfl ?_); refine Kd.R_lit (Kd.int .i64) _ 2 ?hg (N := 36) ?hd (xs := ([13] : List Int)) (inner := [.int .i64 13]) (ok := fun _ => True) (okp := fun _ => True) ?hr ?hp (fun _ hk => hk) trivial (Below.refl _ _) (Nat.le_refl _) (by simp) ?_; (case hd => rfl); (case hg => rfl); (case hr => first | (go_simp; done) | (go_simp; rfl)); (case hp => exact (Reps.one (show Kd.M (Kd.int .i64) _ _ _ 13 [.int .i64 13] from rfl) (Reps.none _ _))); intro v368 w56 ho57 hb hg_ hnew_; clear hg_ hnew_; (first | rw [← Ny367.out] at ho57 | (simp only [Int.reduceToNat] at ho57; rw [← Ny367.out] at ho57)); have HO369 := Aside0.mk (Kd.R_lower ho57 (below_size (HB_up HB.out))); replace BK353 := Aside0.mk (blk_below (g := gb353) (blk_up BK353.out) hb); replace HB := Aside0.mk (below_step (HB_up HB.out) hb); clear hb ho57; obtain ⟨Ao58, co58, eo58⟩ := Kd.R_slice HO369.out; subst eo58) | ((with_reducible refine gate_callee (f := 80) rfl ?_); refine goesY_ (some 37) Try.func80 #[.agg #[.string a0_0, .int .i64 a0_1, .string a0_2, .slice A0_3 l0_3.length c0_3, .int .i64 a0_4, .int .i64 a0_5, .int .i64 a0_6, .slice A0_7 l0_7.length c0_7, .int .i64 a0_8, .slice A0_9 l0_9.length c0_9, .int .i64 a0_10, .bool a0_11, .slice A0_12 l0_12.length c0_12, .int .i64 a0_13], .slice Ao58 y367.length co58] rfl ?_; (with_reducible refine (impl_Cmd_is.calls kj17 a0_0 a0_1 a0_2 _ _ l0_3 a0_4 a0_5 a0_6 _ _ l0_7 a0_8 _ _ l0_9 a0_10 a0_11 _ _ l0_12 a0_13 _ _ y367 false _ ?_ ?_ ?_ ?_ ?_ ?_ ?_ ?_ ?_ ?_ A46.out).mono ?_); exact C_up (Kd.C_below HR0_3.out HB.out); exact HC0_3.out; exact C_up (Kd.C_below HR0_7.out HB.out); exact HC0_7.out; exact C_up (Kd.C_below HR0_9.out HB.out); exact HC0_9.out; exact C_up (Kd.C_below HR0_12.out HB.out); exact HC0_12.out; exact C_up (Kd.R_reads' HO369.out).2.2; exact (Kd.R_reads' HO369.out).2.1; rintro e w59 ⟨rfl, hb⟩; refine ⟨_, rfl, ?_⟩; replace HO369 := Aside0.mk (Kd.R_below (R_up HO369.out) hb); replace BK353 := Aside0.mk (blk_below (g := gb353) (blk_up BK353.out) hb); replace HB := Aside0.mk (below_step (HB_up HB.out) hb); (try clear hb)))
           go_meet
           case rel => exact ⟨_, (false), vl_, H', ⟨by have := HJ1.out; have := HJ17.out; first | omega | exact Nat.le_refl _⟩, ⟨blk_up BK353.out⟩, ⟨hs_⟩⟩
         case rest =>
          clear HC43
          try clear c40
          try clear c42
          try clear hcz44_0
          try clear hcz44_1
          try clear hcz44_10
          try clear hcz44_11
          try clear hcz44_12
          try clear hcz44_13
          try clear hcz44_2
          try clear hcz44_3
          try clear hcz44_4
          try clear hcz44_5
          try clear hcz44_6
          try clear hcz44_7
          try clear hcz44_8
          try clear hcz44_9
          try clear hfz44_0
          try clear hfz44_1
          try clear hfz44_10
          try clear hfz44_11
          try clear hfz44_12
          try clear hfz44_13
          try clear hfz44_2
          try clear hfz44_3
          try clear hfz44_4
          try clear hfz44_5
          try clear hfz44_6
          try clear hfz44_7
          try clear hfz44_8
          try clear hfz44_9
          obtain ⟨kq, x30_42, rfl, HA, HJ42, BK353, HB⟩ := hcut
          cases kq with
          | zero => exact absurd HA.out (by simp [impl_Cmd_areNumbers.j2])
          | succ kj42 =>
            have H := HA.out
            clear HA
            simp only [impl_Cmd_areNumbers.j2] at H
            by_cases c60 : x30_42 = true
            ·
             subst c60
             (try rw [if_pos rfl] at H)
             obtain rfl := Option.some.inj H
             go_wp2
             go_ret
             exact ⟨ve_, hs_⟩
            ·
             replace c60 := Bool.eq_false_iff.mpr c60
             subst c60
             (try rw [if_neg (show ¬ (false = true) by decide)] at H)
             have HC61 := Aside0.mk H
             clear H
             go_upto_region 8 with (fail)
             go_cut [30] (fun v30 wc => ∃ (kq : Nat) (x30_60 : Bool), v30 = .bool x30_60 ∧ Aside0 (impl_Cmd_areNumbers.j3 kq x30_60 a0_0 a0_1 a0_2 l0_3 a0_4 a0_5 a0_6 l0_7 a0_8 l0_9 a0_10 a0_11 l0_12 a0_13 = some r) ∧ Aside0 (kq ≤ kj42) ∧ Aside0 (wc.heap[gb353]? = some (.cells #[.string a0_0, .int .i64 a0_1, .string a0_2, (.slice A0_3 l0_3.length c0_3), .int .i64 a0_4, .int .i64 a0_5, .int .i64 a0_6, (.slice A0_7 l0_7.length c0_7), .int .i64 a0_8, (.slice A0_9 l0_9.length c0_9), .int .i64 a0_10, .bool a0_11, (.slice A0_12 l0_12.length c0_12), .int .i64 a0_13] 33 (0, 0))) ∧ Aside0 (Below w.heap.size w wc))
             case first =>
              have H := HC61.out
              clear HC61
              obtain ⟨y372, hy372⟩ : ∃ y_ : List Int, y_ = (([14] : List Int)) := ⟨_, rfl⟩
              replace H : ((impl_Cmd_is.f kj42 a0_0 a0_1 a0_2 l0_3 a0_4 a0_5 a0_6 l0_7 a0_8 l0_9 a0_10 a0_11 l0_12 a0_13 y372).bind fun t375 => (if t375 = true then ((impl_isComparator.f a0_13).bind fun t376 => (impl_Cmd_areNumbers.j3 kj42 (!t376) a0_0 a0_1 a0_2 l0_3 a0_4 a0_5 a0_6 l0_7 a0_8 l0_9 a0_10 a0_11 l0_12 a0_13)) else (impl_Cmd_areNumbers.j3 kj42 false a0_0 a0_1 a0_2 l0_3 a0_4 a0_5 a0_6 l0_7 a0_8 l0_9 a0_10 a0_11 l0_12 a0_13))) = some r := by first | (rw [hy372]; with_reducible exact H) | (have H2_ := (Option.bind_some _ _).symm.trans H; rw [hy372]; with_reducible exact H2_) | (have H2_ := (Option.bind_some _ _).symm.trans H; with_reducible exact H2_) | with_reducible exact H | (rw [hy372]; exact H) | exact H
              have Ny372 := Aside0.mk hy372
              clear hy372
              replace H := Option.bind_eq_some_iff.mp H
              obtain ⟨t375, A620, H⟩ := H
              (try dsimp only at H)
              have A62 := Aside0.mk A620
              clear A620
              by_cases c63 : t375 = true
              ·
               subst c63
               (try rw [if_pos rfl] at H)
               replace H := Option.bind_eq_some_iff.mp H
               obtain ⟨t376, A640, H⟩ := H
               (try dsimp only at H)
               have A64 := Aside0.mk A640
               clear A640
               have H' := Aside0.mk H
               clear H
               obtain ⟨_, _, _, _, _, _, _, _, _, _, _, _, _, _⟩ := blk_cells14 BK353.out
               obtain ⟨_, _, _, _, _, _, _, _, _, _, _, _, _, _⟩ := blk_frozen14 BK353.out
               go_wp2_with (first | ((with_reducible refine gate_dst (N := 45) rfl ?_); refine Kd.R_lit (Kd.int .i64) _ 2 ?hg (N := 45) ?hd (xs := ([14] : List Int)) (inner := [.int .i64 14]) (ok := fun _ => True) (okp := fun _ => True) ?hr ?hp (fun _ hk => hk) trivial (Below.refl _ _) (Nat.le_refl _) (by simp) ?_; (case hd => rfl); (case hg => rfl); (case hr => first | (go_simp; done) | (go_simp; rfl)); (case hp => exact (Reps.one (show Kd.M (Kd.int .i64) _ _ _ 14 [.int .i64 14] from rfl) (Reps.none _ _))); intro v373 w66 ho67 hb hg_ hnew_; clear hg_ hnew_; (first | rw [← Ny372.out] at ho67 | (simp only [Int.reduceToNat] at ho67; rw [← Ny372.out] at ho67)); have HO374 := Aside0.mk (Kd.R_lower ho67 (below_size (HB_up HB.out))); replace BK353 := Aside0.mk (blk_below (g := gb353) (blk_up BK353.out) hb); replace HB := Aside0.mk (below_step (HB_up HB.out) hb); clear hb ho67; obtain ⟨Ao68, co68, eo68⟩ := Kd.R_slice HO374.out; subst eo68) | ((with_reducible refine gate_callee (f := 80) rfl ?_); refine goesY_ (some 46) Try.func80 #[.agg #[.string a0_0, .int .i64 a0_1, .string a0_2, .slice A0_3 l0_3.length c0_3, .int .i64 a0_4, .int .i64 a0_5, .int .i64 a0_6, .slice A0_7 l0_7.length c0_7, .int .i64 a0_8, .slice A0_9 l0_9.length c0_9, .int .i64 a0_10, .bool a0_11, .slice A0_12 l0_12.length c0_12, .int .i64 a0_13], .slice Ao68 y372.length co68] rfl ?_; (with_reducible refine (impl_Cmd_is.calls kj42 a0_0 a0_1 a0_2 _ _ l0_3 a0_4 a0_5 a0_6 _ _ l0_7 a0_8 _ _ l0_9 a0_10 a0_11 _ _ l0_12 a0_13 _ _ y372 true _ ?_ ?_ ?_ ?_ ?_ ?_ ?_ ?_ ?_ ?_ A62.out).mono ?_); exact C_up (Kd.C_below HR0_3.out HB.out); exact HC0_3.out; exact C_up (Kd.C_below HR0_7.out HB.out); exact HC0_7.out; exact C_up (Kd.C_below HR0_9.out HB.out); exact HC0_9.out; exact C_up (Kd.C_below HR0_12.out HB.out); exact HC0_12.out; exact C_up (Kd.R_reads' HO374.out).2.2; exact (Kd.R_reads' HO374.out).2.1; rintro e w69 ⟨rfl, hb⟩; refine ⟨_, rfl, ?_⟩; replace HO374 := Aside0.mk (Kd.R_below (R_up HO374.out) hb); replace BK353 := Aside0.mk (blk_below (g := gb353) (blk_up BK353.out) hb); replace HB := Aside0.mk (below_step (HB_up HB.out) hb); (try clear hb); obtain ⟨_, _, _, _, _, _, _, _, _, _, _, _, _, _⟩ := blk_cells14 BK353.out; obtain ⟨_, _, _, _, _, _, _, _, _, _, _, _, _, _⟩ := blk_frozen14 BK353.out) | (go_at_call 89; (with_reducible refine (impl_isComparator.calls a0_13 t376 _ A64.out).mono ?_); rintro e w' ⟨rfl, ⟨nd, rfl⟩⟩))
               go_meet
               case rel => exact ⟨_, (!t376), vl_, H', ⟨by have := HJ1.out; have := HJ17.out; have := HJ42.out; first | omega | exact Nat.le_refl _⟩, ⟨blk_up BK353.out⟩, ⟨hs_⟩⟩
              ·
               replace c63 := Bool.eq_false_iff.mpr c63
               subst c63
               (try rw [if_neg (show ¬ (false = true) by decide)] at H)
               have H' := Aside0.mk H
               clear H
               obtain ⟨_, _, _, _, _, _, _, _, _, _, _, _, _, _⟩ := blk_cells14 BK353.out
               obtain ⟨_, _, _, _, _, _, _, _, _, _, _, _, _, _⟩ := blk_frozen14 BK353.out
               go_wp2_with (first | ((with_reducible refine gate_dst (N := 45) rfl ?_); refine Kd.R_lit (Kd.int .i64) _ 2 ?hg (N := 45) ?hd (xs := ([14] : List Int)) (inner := [.int .i64 14]) (ok := fun _ => True) (okp := fun _ => True) ?hr ?hp (fun _ hk => hk) trivial (Below.refl _ _) (Nat.le_refl _) (by simp) ?_; (case hd => rfl); (case hg => rfl); (case hr => first | (go_simp; done) | (go_simp; rfl)); (case hp => exact (Reps.one (show Kd.M (Kd.int .i64) _ _ _ 14 [.int .i64 14] from rfl) (Reps.none _ _))); intro v373 w72 ho73 hb hg_ hnew_; clear hg_ hnew_; (first | rw [← Ny372.out] at ho73 | (simp only [Int.reduceToNat] at ho73; rw [← Ny372.out] at ho73)); have HO374 := Aside0.mk (Kd.R_lower ho73 (below_size (HB_up HB.out))); replace BK353 := Aside0.mk (blk_below (g := gb353) (blk_up BK353.out) hb); replace HB := Aside0.mk (below_step (HB_up HB.out) hb); clear hb ho73; obtain ⟨Ao74, co74, eo74⟩ := Kd.R_slice HO374.out; subst eo74) | ((with_reducible refine gate_callee (f := 80) rfl ?_); refine goesY_ (some 46) Try.func80 #[.agg #[.string a0_0, .int .i64 a0_1, .string a0_2, .slice A0_3 l0_3.length c0_3, .int .i64 a0_4, .int .i64 a0_5, .int .i64 a0_6, .slice A0_7 l0_7.length c0_7, .int .i64 a0_8, .slice A0_9 l0_9.length c0_9, .int .i64 a0_10, .bool a0_11, .slice A0_12 l0_12.length c0_12, .int .i64 a0_13], .slice Ao74 y372.length co74] rfl ?_; (with_reducible refine (impl_Cmd_is.calls kj42 a0_0 a0_1 a0_2 _ _ l0_3 a0_4 a0_5 a0_6 _ _ l0_7 a0_8 _ _ l0_9 a0_10 a0_11 _ _ l0_12 a0_13 _ _ y372 false _ ?_ ?_ ?_ ?_ ?_ ?_ ?_ ?_ ?_ ?_ A62.out).mono ?_); exact C_up (Kd.C_below HR0_3.out HB.out); exact HC0_3.out; exact C_up (Kd.C_below HR0_7.out HB.out); exact HC0_7.out; exact C_up (Kd.C_below HR0_9.out HB.out); exact HC0_9.out; exact C_up (Kd.C_below HR0_12.out HB.out); exact HC0_12.out; exact C_up (Kd.R_reads' HO374.out).2.2; exact (Kd.R_reads' HO374.out).2.1; rintro e w75 ⟨rfl, hb⟩; refine ⟨_, rfl, ?_⟩; replace HO374 := Aside0.mk (Kd.R_below (R_up HO374.out) hb); replace BK353 := Aside0.mk (blk_below (g := gb353) (blk_up BK353.out) hb); replace HB := Aside0.mk (below_step (HB_up HB.out) hb); (try clear hb)))
               go_meet
               case rel => exact ⟨_, (false), vl_, H', ⟨by have := HJ1.out; have := HJ17.out; have := HJ42.out; first | omega | exact Nat.le_refl _⟩, ⟨blk_up BK353.out⟩, ⟨hs_⟩⟩
             case rest =>
              clear HC61
              try clear c40
              try clear c42
              try clear c60
              try clear hcz44_0
              try clear hcz44_1
              try clear hcz44_10
              try clear hcz44_11
              try clear hcz44_12
              try clear hcz44_13
              try clear hcz44_2
              try clear hcz44_3
              try clear hcz44_4
              try clear hcz44_5
              try clear hcz44_6
              try clear hcz44_7
              try clear hcz44_8
              try clear hcz44_9
              try clear hfz44_0
              try clear hfz44_1
              try clear hfz44_10
              try clear hfz44_11
              try clear hfz44_12
              try clear hfz44_13
              try clear hfz44_2
              try clear hfz44_3
              try clear hfz44_4
              try clear hfz44_5
              try clear hfz44_6
              try clear hfz44_7
              try clear hfz44_8
              try clear hfz44_9
              obtain ⟨kq, x30_60, rfl, HA, HJ60, BK353, HB⟩ := hcut
              cases kq with
              | zero => exact absurd HA.out (by simp [impl_Cmd_areNumbers.j3])
              | succ kj60 =>
                have H := HA.out
                clear HA
                simp only [impl_Cmd_areNumbers.j3] at H
                by_cases c76 : x30_60 = true
                ·
                 subst c76
                 (try rw [if_pos rfl] at H)
                 obtain rfl := Option.some.inj H
                 go_wp2
                 go_ret
                 exact ⟨ve_, hs_⟩
                ·
                 replace c76 := Bool.eq_false_iff.mpr c76
                 subst c76
                 (try rw [if_neg (show ¬ (false = true) by decide)] at H)
                 obtain ⟨y377, hy377⟩ : ∃ y_ : List Int, y_ = (([6] : List Int)) := ⟨_, rfl⟩
                 replace H : ((impl_Cmd_is.f kj60 a0_0 a0_1 a0_2 l0_3 a0_4 a0_5 a0_6 l0_7 a0_8 l0_9 a0_10 a0_11 l0_12 a0_13 y377).bind fun t380 => (if t380 = true then ((impl_length_byte.f l0_7).bind fun t381 => ((impl_within.f t381 1 400).bind fun t382 => (if t382 = true then (some true) else (some false)))) else (some true))) = some r := by first | (rw [hy377]; with_reducible exact H) | (have H2_ := (Option.bind_some _ _).symm.trans H; rw [hy377]; with_reducible exact H2_) | (have H2_ := (Option.bind_some _ _).symm.trans H; with_reducible exact H2_) | with_reducible exact H | (rw [hy377]; exact H) | exact H
                 have Ny377 := Aside0.mk hy377
                 clear hy377
                 replace H := Option.bind_eq_some_iff.mp H
                 obtain ⟨t380, A770, H⟩ := H
                 (try dsimp only at H)
                 have A77 := Aside0.mk A770
                 clear A770
                 by_cases c78 : t380 = true
                 ·
                  subst c78
                  (try rw [if_pos rfl] at H)
                  replace H := Option.bind_eq_some_iff.mp H
                  obtain ⟨t381, A790, H⟩ := H
                  (try dsimp only at H)
                  have A79 := Aside0.mk A790
                  clear A790
                  replace H := Option.bind_eq_some_iff.mp H
                  obtain ⟨t382, A800, H⟩ := H
                  (try dsimp only at H)
                  have A80 := Aside0.mk A800
                  clear A800
                  by_cases c81 : t382 = true
                  ·
                   subst c81
                   (try rw [if_pos rfl] at H)
                   obtain rfl := Option.some.inj H
                   obtain ⟨_, _, _, _, _, _, _, _, _, _, _, _, _, _⟩ := blk_cells14 BK353.out
                   obtain ⟨_, _, _, _, _, _, _, _, _, _, _, _, _, _⟩ := blk_frozen14 BK353.out
                   go_wp2_with (first | ((with_reducible refine gate_dst (N := 54) rfl ?_); refine Kd.R_lit (Kd.int .i64) _ 2 ?hg (N := 54) ?hd (xs := ([6] : List Int)) (inner := [.int .i64 6]) (ok := fun _ => True) (okp := fun _ => True) ?hr ?hp (fun _ hk => hk) trivial (Below.refl _ _) (Nat.le_refl _) (by simp) ?_; (case hd => rfl); (case hg => rfl); (case hr => first | (go_simp; done) | (go_simp; rfl)); (case hp => exact (Reps.one (show Kd.M (Kd.int .i64) _ _ _ 6 [.int .i64 6] from rfl) (Reps.none _ _))); intro v378 w83 ho84 hb hg_ hnew_; clear hg_ hnew_; (first | rw [← Ny377.out] at ho84 | (simp only [Int.reduceToNat] at ho84; rw [← Ny377.out] at ho84)); have HO379 := Aside0.mk (Kd.R_lower ho84 (below_size (HB_up HB.out))); replace BK353 := Aside0.mk (blk_below (g := gb353) (blk_up BK353.out) hb); replace HB := Aside0.mk (below_step (HB_up HB.out) hb); clear hb ho84; obtain ⟨Ao85, co85, eo85⟩ := Kd.R_slice HO379.out; subst eo85) | ((with_reducible refine gate_callee (f := 80) rfl ?_); refine goesY_ (some 55) Try.func80 #[.agg #[.string a0_0, .int .i64 a0_1, .string a0_2, .slice A0_3 l0_3.length c0_3, .int .i64 a0_4, .int .i64 a0_5, .int .i64 a0_6, .slice A0_7 l0_7.length c0_7, .int .i64 a0_8, .slice A0_9 l0_9.length c0_9, .int .i64 a0_10, .bool a0_11, .slice A0_12 l0_12.length c0_12, .int .i64 a0_13], .slice Ao85 y377.length co85] rfl ?_; (with_reducible refine (impl_Cmd_is.calls kj60 a0_0 a0_1 a0_2 _ _ l0_3 a0_4 a0_5 a0_6 _ _ l0_7 a0_8 _ _ l0_9 a0_10 a0_11 _ _ l0_12 a0_13 _ _ y377 true _ ?_ ?_ ?_ ?_ ?_ ?_ ?_ ?_ ?_ ?_ A77.out).mono ?_); exact C_up (Kd.C_below HR0_3.out HB.out); exact HC0_3.out; exact C_up (Kd.C_below HR0_7.out HB.out); exact HC0_7.out; exact C_up (Kd.C_below HR0_9.out HB.out); exact HC0_9.out; exact C_up (Kd.C_below HR0_12.out HB.out); exact HC0_12.out; exact C_up (Kd.R_reads' HO379.out).2.2; exact (Kd.R_reads' HO379.out).2.1; rintro e w86 ⟨rfl, hb⟩; refine ⟨_, rfl, ?_⟩; replace HO379 := Aside0.mk (Kd.R_below (R_up HO379.out) hb); replace BK353 := Aside0.mk (blk_below (g := gb353) (blk_up BK353.out) hb); replace HB := Aside0.mk (below_step (HB_up HB.out) hb); (try clear hb); obtain ⟨_, _, _, _, _, _, _, _, _, _, _, _, _, _⟩ := blk_cells14 BK353.out; obtain ⟨_, _, _, _, _, _, _, _, _, _, _, _, _, _⟩ := blk_frozen14 BK353.out) | (go_at_call 90; (with_reducible refine (impl_length_byte.calls _ _ l0_7 t381 _ ?_ ?_ A79.out).mono ?_); exact C_up (Kd.C_below HR0_7.out HB.out); exact HC0_7.out; rintro e w' ⟨rfl, ⟨nd, rfl⟩⟩) | (go_at_call 37; (with_reducible refine (impl_within.calls t381 1 400 true _ A80.out).mono ?_); rintro e w' ⟨rfl, ⟨nd, rfl⟩⟩))
                   go_ret
                   exact ⟨ve_, hs_⟩
                  ·
                   replace c81 := Bool.eq_false_iff.mpr c81
                   subst c81
                   (try rw [if_neg (show ¬ (false = true) by decide)] at H)
                   obtain rfl := Option.some.inj H
                   obtain ⟨_, _, _, _, _, _, _, _, _, _, _, _, _, _⟩ := blk_cells14 BK353.out
                   obtain ⟨_, _, _, _, _, _, _, _, _, _, _, _, _, _⟩ := blk_frozen14 BK353.out
                   go_wp2_with (first | ((with_reducible refine gate_dst (N := 54) rfl ?_); refine Kd.R_lit (Kd.int .i64) _ 2 ?hg (N := 54) ?hd (xs := ([6] : List Int)) (inner := [.int .i64 6]) (ok := fun _ => True) (okp := fun _ => True) ?hr ?hp (fun _ hk => hk) trivial (Below.refl _ _) (Nat.le_refl _) (by simp) ?_; (case hd => rfl); (case hg => rfl); (case hr => first | (go_simp; done) | (go_simp; rfl)); (case hp => exact (Reps.one (show Kd.M (Kd.int .i64) _ _ _ 6 [.int .i64 6] from rfl) (Reps.none _ _))); intro v378 w89 ho90 hb hg_ hnew_; clear hg_ hnew_; (first | rw [← Ny377.out] at ho90 | (simp only [Int.reduceToNat] at ho90; rw [← Ny377.out] at ho90)); have HO379 := Aside0.mk (Kd.R_lower ho90 (below_size (HB_up HB.out))); replace BK353 := Aside0.mk (blk_below (g := gb353) (blk_up BK353.out) hb); replace HB := Aside0.mk (below_step (HB_up HB.out) hb); clear hb ho90; obtain ⟨Ao91, co91, eo91⟩ := Kd.R_slice HO379.out; subst eo91) | ((with_reducible refine gate_callee (f := 80) rfl ?_); refine goesY_ (some 55) Try.func80 #[.agg #[.string a0_0, .int .i64 a0_1, .string a0_2, .slice A0_3 l0_3.length c0_3, .int .i64 a0_4, .int .i64 a0_5, .int .i64 a0_6, .slice A0_7 l0_7.length c0_7, .int .i64 a0_8, .slice A0_9 l0_9.length c0_9, .int .i64 a0_10, .bool a0_11, .slice A0_12 l0_12.length c0_12, .int .i64 a0_13], .slice Ao91 y377.length co91] rfl ?_; (with_reducible refine (impl_Cmd_is.calls kj60 a0_0 a0_1 a0_2 _ _ l0_3 a0_4 a0_5 a0_6 _ _ l0_7 a0_8 _ _ l0_9 a0_10 a0_11 _ _ l0_12 a0_13 _ _ y377 true _ ?_ ?_ ?_ ?_ ?_ ?_ ?_ ?_ ?_ ?_ A77.out).mono ?_); exact C_up (Kd.C_below HR0_3.out HB.out); exact HC0_3.out; exact C_up (Kd.C_below HR0_7.out HB.out); exact HC0_7.out; exact C_up (Kd.C_below HR0_9.out HB.out); exact HC0_9.out; exact C_up (Kd.C_below HR0_12.out HB.out); exact HC0_12.out; exact C_up (Kd.R_reads' HO379.out).2.2; exact (Kd.R_reads' HO379.out).2.1; rintro e w92 ⟨rfl, hb⟩; refine ⟨_, rfl, ?_⟩; replace HO379 := Aside0.mk (Kd.R_below (R_up HO379.out) hb); replace BK353 := Aside0.mk (blk_below (g := gb353) (blk_up BK353.out) hb); replace HB := Aside0.mk (below_step (HB_up HB.out) hb); (try clear hb); obtain ⟨_, _, _, _, _, _, _, _, _, _, _, _, _, _⟩ := blk_cells14 BK353.out; obtain ⟨_, _, _, _, _, _, _, _, _, _, _, _, _, _⟩ := blk_frozen14 BK353.out) | (go_at_call 90; (with_reducible refine (impl_length_byte.calls _ _ l0_7 t381 _ ?_ ?_ A79.out).mono ?_); exact C_up (Kd.C_below HR0_7.out HB.out); exact HC0_7.out; rintro e w' ⟨rfl, ⟨nd, rfl⟩⟩) | (go_at_call 37; (with_reducible refine (impl_within.calls t381 1 400 false _ A80.out).mono ?_); rintro e w' ⟨rfl, ⟨nd, rfl⟩⟩))
                   go_ret
                   exact ⟨ve_, hs_⟩
                 ·
                  replace c78 := Bool.eq_false_iff.mpr c78
                  subst c78
                  (try rw [if_neg (show ¬ (false = true) by decide)] at H)
                  obtain rfl := Option.some.inj H
                  obtain ⟨_, _, _, _, _, _, _, _, _, _, _, _, _, _⟩ := blk_cells14 BK353.out
                  obtain ⟨_, _, _, _, _, _, _, _, _, _, _, _, _, _⟩ := blk_frozen14 BK353.out
                  go_wp2_with (first | ((with_reducible refine gate_dst (N := 54) rfl ?_); refine Kd.R_lit (Kd.int .i64) _ 2 ?hg (N := 54) ?hd (xs := ([6] : List Int)) (inner := [.int .i64 6]) (ok := fun _ => True) (okp := fun _ => True) ?hr ?hp (fun _ hk => hk) trivial (Below.refl _ _) (Nat.le_refl _) (by simp) ?_; (case hd => rfl); (case hg => rfl); (case hr => first | (go_simp; done) | (go_simp; rfl)); (case hp => exact (Reps.one (show Kd.M (Kd.int .i64) _ _ _ 6 [.int .i64 6] from rfl) (Reps.none _ _))); intro v378 w95 ho96 hb hg_ hnew_; clear hg_ hnew_; (first | rw [← Ny377.out] at ho96 | (simp only [Int.reduceToNat] at ho96; rw [← Ny377.out] at ho96)); have HO379 := Aside0.mk (Kd.R_lower ho96 (below_size (HB_up HB.out))); replace BK353 := Aside0.mk (blk_below (g := gb353) (blk_up BK353.out) hb); replace HB := Aside0.mk (below_step (HB_up HB.out) hb); clear hb ho96; obtain ⟨Ao97, co97, eo97⟩ := Kd.R_slice HO379.out; subst eo97) | ((with_reducible refine gate_callee (f := 80) rfl ?_); refine goesY_ (some 55) Try.func80 #[.agg #[.string a0_0, .int .i64 a0_1, .string a0_2, .slice A0_3 l0_3.length c0_3, .int .i64 a0_4, .int .i64 a0_5, .int .i64 a0_6, .slice A0_7 l0_7.length c0_7, .int .i64 a0_8, .slice A0_9 l0_9.length c0_9, .int .i64 a0_10, .bool a0_11, .slice A0_12 l0_12.length c0_12, .int .i64 a0_13], .slice Ao97 y377.length co97] rfl ?_; (with_reducible refine (impl_Cmd_is.calls kj60 a0_0 a0_1 a0_2 _ _ l0_3 a0_4 a0_5 a0_6 _ _ l0_7 a0_8 _ _ l0_9 a0_10 a0_11 _ _ l0_12 a0_13 _ _ y377 false _ ?_ ?_ ?_ ?_ ?_ ?_ ?_ ?_ ?_ ?_ A77.out).mono ?_); exact C_up (Kd.C_below HR0_3.out HB.out); exact HC0_3.out; exact C_up (Kd.C_below HR0_7.out HB.out); exact HC0_7.out; exact C_up (Kd.C_below HR0_9.out HB.out); exact HC0_9.out; exact C_up (Kd.C_below HR0_12.out HB.out); exact HC0_12.out; exact C_up (Kd.R_reads' HO379.out).2.2; exact (Kd.R_reads' HO379.out).2.1; rintro e w98 ⟨rfl, hb⟩; refine ⟨_, rfl, ?_⟩; replace HO379 := Aside0.mk (Kd.R_below (R_up HO379.out) hb); replace BK353 := Aside0.mk (blk_below (g := gb353) (blk_up BK353.out) hb); replace HB := Aside0.mk (below_step (HB_up HB.out) hb); (try clear hb)))
                  go_ret
                  exact ⟨ve_, hs_⟩
        ·
         replace c42 := Bool.eq_false_iff.mpr c42
         subst c42
         (try rw [if_neg (show ¬ (false = true) by decide)] at H)
         obtain rfl := Option.some.inj H
         obtain ⟨_, _, _, _, _, _, _, _, _, _, _, _, _, _⟩ := blk_cells14 BK353.out
         obtain ⟨_, _, _, _, _, _, _, _, _, _, _, _, _, _⟩ := blk_frozen14 BK353.out
         go_wp2_with (first | ((with_reducible refine gate_callee (f := 87) rfl ?_); refine goesY_ (some 33) Try.func87 #[.slice A0_9 l0_9.length c0_9] rfl ?_; (with_reducible refine (impl_isPath.calls kj17 _ _ l0_9 false _ ?_ ?_ A41.out).mono ?_); exact C_up (Kd.C_below HR0_9.out HB.out); exact HC0_9.out; rintro e w100 ⟨rfl, hb⟩; refine ⟨_, rfl, ?_⟩; replace BK353 := Aside0.mk (blk_below (g := gb353) (blk_up BK353.out) hb); replace HB := Aside0.mk (below_step (HB_up HB.out) hb); (try clear hb)))
         go_ret
         exact ⟨ve_, hs_⟩

/-! ### impl_Term: function 91 -/
def impl_Term.f (l0 : List (S104)) : Option (Int) := some (l0.length : Int)
set_option maxHeartbeats 8000000 in
set_option maxRecDepth 100000 in
theorem impl_Term.calls (A0 : Option Addr) (c0 : Nat) (l0 : List (S104)) (r : Int) (w : World) (hr0 : Kd.C k104 w A0 l0.length l0) (hc0 : l0.length ≤ c0) (h : impl_Term.f l0 = some r) :
 Calls Try.prog 91 #[.slice A0 l0.length c0] w fun e w' => e = .returned (.int .i64 r) ∧ Drawn0 w w' := by
 have HR0 := Aside0.mk hr0
 have HC0 := Aside0.mk hc0
 clear hr0 hc0
 have H : (some (l0.length : Int)) = some r := h
 clear h
 obtain rfl := Option.some.inj H
 go_enter Try.func91, Try.ntmps91
 go_wp2
 go_ret
 exact ⟨vl_, dr_⟩

/-! ### impl_hasNum: function 131 -/
def impl_hasNum.f (a0 : Int) : Option (Bool) := (impl_within.f a0 2 5).bind fun t383 => (some t383)
set_option maxHeartbeats 8000000 in
set_option maxRecDepth 100000 in
theorem impl_hasNum.calls (a0 : Int) (r : Bool) (w : World) (h : impl_hasNum.f a0 = some r) :
 Calls Try.prog 131 #[.int .i64 a0] w fun e w' => e = .returned (.bool r) ∧ Drawn0 w w' := by
 have H : ((impl_within.f a0 2 5).bind fun t383 => (some t383)) = some r := h
 clear h
 replace H := Option.bind_eq_some_iff.mp H
 obtain ⟨t383, A20, H⟩ := H
 replace H : (some t383) = some r := H
 have A2 := Aside0.mk A20
 clear A20
 obtain rfl := Option.some.inj H
 go_enter Try.func131, Try.ntmps131
 go_wp2_with (first | ((with_reducible refine gate_callee (f := 37) rfl ?_); refine goesY_ (some 4) Try.func37 #[.int .i64 a0, .int .i64 2, .int .i64 5] rfl ?_; (with_reducible refine (impl_within.calls a0 2 5 t383 _ A2.out).mono ?_); rintro e w' ⟨rfl, ⟨nd, rfl⟩⟩; refine ⟨_, rfl, ?_⟩))
 go_ret
 exact ⟨vl_, dr_⟩

/-! ### impl_hasCodes: function 132 -/
def impl_hasCodes.f (a0 : Int) : Option (Bool) := if a0 = 6 then (some true) else (some (a0 == 7))
set_option maxHeartbeats 8000000 in
set_option maxRecDepth 100000 in
theorem impl_hasCodes.calls (a0 : Int) (r : Bool) (w : World) (h : impl_hasCodes.f a0 = some r) :
 Calls Try.prog 132 #[.int .i64 a0] w fun e w' => e = .returned (.bool r) ∧ Drawn0 w w' := by
 have H : (if a0 = 6 then (some true) else (some (a0 == 7))) = some r := h
 clear h
 by_cases c2 : a0 = 6
 ·
  rw [if_pos c2] at H
  have c2b0 : (a0 == 6) = true := beq_iff_eq.mpr c2
  have c2b1 : (a0 != 6) = false := bne_eq_false_iff_eq.mpr c2
  clear c2
  obtain rfl := Option.some.inj H
  go_enter Try.func132, Try.ntmps132
  go_wp2
  go_ret
  exact ⟨vl_, dr_⟩
 ·
  rw [if_neg c2] at H
  have c2b0 : (a0 == 6) = false := beq_eq_false_iff_ne.mpr c2
  have c2b1 : (a0 != 6) = true := bne_iff_ne.mpr c2
  obtain rfl := Option.some.inj H
  go_enter Try.func132, Try.ntmps132
  go_wp2
  go_ret
  exact ⟨vl_, dr_⟩

end Go.Proofs.Ytnehephjliankaa.PFnExactCmdFault

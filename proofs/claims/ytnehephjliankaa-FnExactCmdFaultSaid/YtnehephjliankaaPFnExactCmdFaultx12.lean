/- Functions of the program as Lean functions, each with the proof that its call comes to what that function says (texts written by a program of this session). Conditions: those that stand in each theorem. -/
import Derived.Test.YtnehephjliankaaPFnExactCmdFaultx0
import Derived.Test.YtnehephjliankaaPFnExactCmdFaultx8
import Derived.Test.YtnehephjliankaaPFnExactCmdFaultx10
import Derived.Test.YtnehephjliankaaPFnExactCmdFaultx11
namespace Go.Proofs.Ytnehephjliankaa.PFnExactCmdFault
open Go.RowKit Go.Proofs.YtnehephjliankaaW.PrintWords Go.Proofs.YtnehephjliankaaW.PrintLast Go.Proofs.YtnehephjliankaaW.PrintMore
attribute [local go_sem] max2_int min2_int max_two min_two max_three min_three max_four min_four   -- for this text's walks alone
set_option linter.unusedVariables false
set_option linter.unusedSimpArgs false

/-! ### slices_IndexFunc_int64_int64_v3: function 1000003 -/
def slices_IndexFunc_int64_int64_v3.l0 : Nat → List Int → Int → Int → Option (Int)
 | 0, _, _, _ => none
 | k + 1, x0, x7, x8 => if x8 < x7 then (if 0 ≤ x8 then (if x8 < (x0.length : Int) then ((impl_Term_areCodes_1.f (rd x0 x8)).bind fun t395 => (if t395 = true then (some x8) else (slices_IndexFunc_int64_int64_v3.l0 k x0 x7 (wrap64 (x8 + 1))))) else (none)) else (none)) else (some (-1))
def slices_IndexFunc_int64_int64_v3.f (k : Nat) (l0 : List Int)  : Option (Int) := slices_IndexFunc_int64_int64_v3.l0 k l0 (l0.length : Int) 0
set_option maxHeartbeats 8000000 in
set_option maxRecDepth 100000 in
theorem slices_IndexFunc_int64_int64_v3.calls (k : Nat) (A0 : Option Addr) (c0 : Nat) (l0 : List Int)  (r : Int) (w : World) (hr0 : Kd.C (Kd.int .i64) w A0 l0.length l0) (hc0 : l0.length ≤ c0) (h : slices_IndexFunc_int64_int64_v3.f k l0 = some r) :
 Calls Try.prog 147 #[.slice A0 l0.length c0, .func (.func 134) #[] #[]] w fun e w' => e = .returned (.int .i64 r) ∧ Below w.heap.size w w' := by
 have HR0 := Aside0.mk hr0
 have HC0 := Aside0.mk hc0
 clear hr0 hc0
 have HB := Aside0.mk (Below.refl w.heap.size w)
 have H : (slices_IndexFunc_int64_int64_v3.l0 k l0 (l0.length : Int) 0) = some r := h
 clear h
 have H' := Aside0.mk H
 clear H
 go_enter Try.func147, Try.ntmps147
 go_wp2
 go_loopg [8] k (fun kq v8 w' => ∃ (x8_1 : Int), v8 = .int .i64 x8_1 ∧ Aside0 (slices_IndexFunc_int64_int64_v3.l0 kq l0 (l0.length : Int) x8_1 = some r) ∧ Aside0 (kq ≤ k) ∧ Aside0 (Below w.heap.size w w'))
 case atStart => exact ⟨(0), vl_, H', ⟨Nat.le_refl _⟩, ⟨hb_⟩⟩
 case round =>
  clear H'
  try clear c1
  try clear p2
  obtain ⟨x8_1, rfl, HA, HK1, HB⟩ := hrel
  cases gk with
  | zero => exact absurd HA.out (by simp [slices_IndexFunc_int64_int64_v3.l0])
  | succ k1 =>
    have H := HA.out
    clear HA
    simp only [slices_IndexFunc_int64_int64_v3.l0] at H
    by_cases c3 : x8_1 < (l0.length : Int)
    ·
     rw [if_pos c3] at H
     have c3b0 : decide (x8_1 < (l0.length : Int)) = true := decide_eq_true c3
     clear c3
     by_cases c4 : 0 ≤ x8_1
     ·
      rw [if_pos c4] at H
      have c4b0 : decide (0 ≤ x8_1) = true := decide_eq_true c4
      clear c4
      by_cases c5 : x8_1 < (l0.length : Int)
      ·
       rw [if_pos c5] at H
       have c5b0 : decide (x8_1 < (l0.length : Int)) = true := decide_eq_true c5
       clear c5
       replace H := Option.bind_eq_some_iff.mp H
       obtain ⟨t395, A60, H⟩ := H
       (try dsimp only at H)
       have A6 := Aside0.mk A60
       clear A60
       have p394 : 0 ≤ (x8_1 : Int) := od_
       have q394 : x8_1 < (l0.length : Int) := od_
       obtain ⟨ad394, e394, hx394_0⟩ := Kd.at_int HR0.out x8_1 p394 q394
       cases e394
       replace hx394_0 := ck_ HB.out hx394_0
       replace p394 := eq_true p394
       replace q394 := eq_true q394
       by_cases c7 : t395 = true
       ·
        subst c7
        (try rw [if_pos rfl] at H)
        obtain rfl := Option.some.inj H
        go_wp2_with (first | (go_at_call 134; (with_reducible refine (impl_Term_areCodes_1.calls (rd l0 x8_1) true _ A6.out).mono ?_); rintro e w' ⟨rfl, ⟨nd, rfl⟩⟩))
        go_ret
        exact ⟨ve_, hb_⟩
       ·
        replace c7 := Bool.eq_false_iff.mpr c7
        subst c7
        (try rw [if_neg (show ¬ (false = true) by decide)] at H)
        have H' := Aside0.mk H
        clear H
        go_wp2_with (first | (go_at_call 134; (with_reducible refine (impl_Term_areCodes_1.calls (rd l0 x8_1) false _ A6.out).mono ?_); rintro e w' ⟨rfl, ⟨nd, rfl⟩⟩))
        go_roundg k1
        case measure => have := HK1.out; omega
        case rel => exact ⟨(wrap64 (x8_1 + 1)), vl_, H', ⟨by have := HK1.out; omega⟩, ⟨hb_⟩⟩
      · rw [if_neg c5] at H
        exact absurd H (by simp)
     · rw [if_neg c4] at H
       exact absurd H (by simp)
    ·
     rw [if_neg c3] at H
     have c3b0 : decide (x8_1 < (l0.length : Int)) = false := decide_eq_false c3
     clear c3
     obtain rfl := Option.some.inj H
     go_wp2
     go_ret
     exact ⟨ve_, hb_⟩

/-! ### slices_ContainsFunc_int64_int64_v2: function 1000002 -/
def slices_ContainsFunc_int64_int64_v2.f (k : Nat) (l0 : List Int)  : Option (Bool) := (slices_IndexFunc_int64_int64_v3.f k l0).bind fun t396 => (some (decide (t396 ≥ 0)))
set_option maxHeartbeats 8000000 in
set_option maxRecDepth 100000 in
theorem slices_ContainsFunc_int64_int64_v2.calls (k : Nat) (A0 : Option Addr) (c0 : Nat) (l0 : List Int)  (r : Bool) (w : World) (hr0 : Kd.C (Kd.int .i64) w A0 l0.length l0) (hc0 : l0.length ≤ c0) (h : slices_ContainsFunc_int64_int64_v2.f k l0 = some r) :
 Calls Try.prog 129 #[.slice A0 l0.length c0, .func (.func 134) #[] #[]] w fun e w' => e = .returned (.bool r) ∧ Below w.heap.size w w' := by
 have HR0 := Aside0.mk hr0
 have HC0 := Aside0.mk hc0
 clear hr0 hc0
 have HB := Aside0.mk (Below.refl w.heap.size w)
 have H : ((slices_IndexFunc_int64_int64_v3.f k l0).bind fun t396 => (some (decide (t396 ≥ 0)))) = some r := h
 clear h
 replace H := Option.bind_eq_some_iff.mp H
 obtain ⟨t396, A30, H⟩ := H
 replace H : (some (decide (t396 ≥ 0))) = some r := H
 have A3 := Aside0.mk A30
 clear A30
 obtain rfl := Option.some.inj H
 go_enter Try.func129, Try.ntmps129
 go_wp2_with (first | (go_at_call 147; (with_reducible refine (slices_IndexFunc_int64_int64_v3.calls k _ _ l0 t396 _ ?_ ?_ A3.out).mono ?_); exact C_up HR0.out; exact HC0.out; rintro e w4 ⟨rfl, hb⟩; replace HB := Aside0.mk (below_step (HB_up HB.out) hb); (try clear hb)))
 go_ret
 exact ⟨ve_, hb_⟩

/-! ### impl_Term_areCodes: function 94 -/
def impl_Term_areCodes.f (k : Nat) (a0_0 : Int) (a0_1 : Int) (l0_2 : List Int) (l0_3 : List (S100)) (a0_4 : Int) (a0_5 : Int) : Option (Bool) := (impl_hasCodes.f a0_0).bind fun t398 => (if t398 = true then ((impl_length_int64.f l0_2).bind fun t399 => ((impl_within.f t399 1 20).bind fun t400 => (if t400 = true then ((slices_ContainsFunc_int64_int64_v2.f k l0_2).bind fun t401 => (some (!t401))) else (some false)))) else (some true))
set_option maxHeartbeats 8000000 in
set_option maxRecDepth 100000 in
theorem impl_Term_areCodes.calls (k : Nat) (a0_0 : Int) (a0_1 : Int) (A0_2 : Option Addr) (c0_2 : Nat) (l0_2 : List Int) (A0_3 : Option Addr) (c0_3 : Nat) (l0_3 : List (S100)) (a0_4 : Int) (a0_5 : Int) (r : Bool) (w : World) (hr0_2 : Kd.C (Kd.int .i64) w A0_2 l0_2.length l0_2) (hc0_2 : l0_2.length ≤ c0_2) (hr0_3 : Kd.C k100 w A0_3 l0_3.length l0_3) (hc0_3 : l0_3.length ≤ c0_3) (h : impl_Term_areCodes.f k a0_0 a0_1 l0_2 l0_3 a0_4 a0_5 = some r) :
 Calls Try.prog 94 #[.agg #[.int .i64 a0_0, .int .i64 a0_1, .slice A0_2 l0_2.length c0_2, .slice A0_3 l0_3.length c0_3, .int .i64 a0_4, .int .i64 a0_5]] w fun e w' => e = .returned (.bool r) ∧ Below w.heap.size w w' := by
 have hu104 := Try.underlying104
 have HR0_2 := Aside0.mk hr0_2
 have HC0_2 := Aside0.mk hc0_2
 clear hr0_2 hc0_2
 have HR0_3 := Aside0.mk hr0_3
 have HC0_3 := Aside0.mk hc0_3
 clear hr0_3 hc0_3
 have HB := Aside0.mk (Below.refl w.heap.size w)
 have H : ((impl_hasCodes.f a0_0).bind fun t398 => (if t398 = true then ((impl_length_int64.f l0_2).bind fun t399 => ((impl_within.f t399 1 20).bind fun t400 => (if t400 = true then ((slices_ContainsFunc_int64_int64_v2.f k l0_2).bind fun t401 => (some (!t401))) else (some false)))) else (some true))) = some r := h
 clear h
 replace H := Option.bind_eq_some_iff.mp H
 obtain ⟨t398, A20, H⟩ := H
 (try dsimp only at H)
 have A2 := Aside0.mk A20
 clear A20
 by_cases c3 : t398 = true
 ·
  subst c3
  (try rw [if_pos rfl] at H)
  replace H := Option.bind_eq_some_iff.mp H
  obtain ⟨t399, A40, H⟩ := H
  (try dsimp only at H)
  have A4 := Aside0.mk A40
  clear A40
  replace H := Option.bind_eq_some_iff.mp H
  obtain ⟨t400, A50, H⟩ := H
  (try dsimp only at H)
  have A5 := Aside0.mk A50
  clear A50
  by_cases c6 : t400 = true
  ·
   subst c6
   (try rw [if_pos rfl] at H)
   replace H := Option.bind_eq_some_iff.mp H
   obtain ⟨t401, A70, H⟩ := H
   replace H : (some (!t401)) = some r := H
   have A7 := Aside0.mk A70
   clear A70
   obtain rfl := Option.some.inj H
   go_enter Try.func94, Try.ntmps94
   go_wp2_with (first | ((with_reducible refine gate_dst (N := 1) rfl ?_); refine box_event ?hg (N := 1) ?hd (cs := #[.int .i64 a0_0, .int .i64 a0_1, .slice A0_2 l0_2.length c0_2, .slice A0_3 l0_3.length c0_3, .int .i64 a0_4, .int .i64 a0_5]) (t := 104) ?hr ?_; (case hd => rfl); (case hg => rfl); (case hr => first | (go_simp; done) | (go_simp; rfl)); intro gb397 hg w8 hbox hb; have n0_ := Aside0.mk (below_step (HB_up HB.out) hb); have n1_ := Aside0.mk (hbox); have n2_ := Aside0.mk ((by rw [hg]; exact (below_size (HB_up HB.out)) : w.heap.size ≤ gb397)); have n3_ := Aside0.mk ((by rw [hg]; exact (below_size (HB_up HB.out)) : w.heap.size ≤ gb397)); clear HB; have HB := n0_; have BK397 := n1_; have GW397 := n2_; have GE397 := n3_; clear n0_ n1_ n2_ n3_; clear hb hbox hg; have hcz9_0 : w8.cell? ⟨gb397, 0, none⟩ = some (.int .i64 a0_0) := (blk_cell BK397.out 0).trans rfl; have hcz9_1 : w8.cell? ⟨gb397, 1, none⟩ = some (.int .i64 a0_1) := (blk_cell BK397.out 1).trans rfl; have hcz9_2 : w8.cell? ⟨gb397, 2, none⟩ = some (.slice A0_2 l0_2.length c0_2) := (blk_cell BK397.out 2).trans rfl; have hcz9_3 : w8.cell? ⟨gb397, 3, none⟩ = some (.slice A0_3 l0_3.length c0_3) := (blk_cell BK397.out 3).trans rfl; have hcz9_4 : w8.cell? ⟨gb397, 4, none⟩ = some (.int .i64 a0_4) := (blk_cell BK397.out 4).trans rfl; have hcz9_5 : w8.cell? ⟨gb397, 5, none⟩ = some (.int .i64 a0_5) := (blk_cell BK397.out 5).trans rfl; have hfz9_0 := blk_frozen BK397.out 0; have hfz9_1 := blk_frozen BK397.out 1; have hfz9_2 := blk_frozen BK397.out 2; have hfz9_3 := blk_frozen BK397.out 3; have hfz9_4 := blk_frozen BK397.out 4; have hfz9_5 := blk_frozen BK397.out 5) | ((with_reducible refine gate_callee (f := 132) rfl ?_); refine goesY_ (some 5) Try.func132 #[.int .i64 a0_0] rfl ?_; (with_reducible refine (impl_hasCodes.calls a0_0 true _ A2.out).mono ?_); rintro e w' ⟨rfl, ⟨nd, rfl⟩⟩; refine ⟨_, rfl, ?_⟩) | ((with_reducible refine gate_callee (f := 133) rfl ?_); refine goesY_ (some 9) Try.func133 #[.slice A0_2 l0_2.length c0_2] rfl ?_; (with_reducible refine (impl_length_int64.calls _ _ l0_2 t399 _ ?_ ?_ A4.out).mono ?_); exact Kd.C_below HR0_2.out (HB_up HB.out); exact HC0_2.out; rintro e w' ⟨rfl, ⟨nd, rfl⟩⟩; refine ⟨_, rfl, ?_⟩) | ((with_reducible refine gate_callee (f := 37) rfl ?_); refine goesY_ (some 10) Try.func37 #[.int .i64 t399, .int .i64 1, .int .i64 20] rfl ?_; (with_reducible refine (impl_within.calls t399 1 20 true _ A5.out).mono ?_); rintro e w' ⟨rfl, ⟨nd, rfl⟩⟩; refine ⟨_, rfl, ?_⟩) | (go_at_call 129; (with_reducible refine (slices_ContainsFunc_int64_int64_v2.calls k _ _ l0_2 t401 _ ?_ ?_ A7.out).mono ?_); exact Kd.C_below HR0_2.out (HB_up HB.out); exact HC0_2.out; rintro e w10 ⟨rfl, hb⟩; replace BK397 := Aside0.mk (blk_below (g := gb397) (blk_up BK397.out) hb); replace HB := Aside0.mk (below_step (HB_up HB.out) hb); (try clear hb)))
   go_ret
   exact ⟨ve_, hs_⟩
  ·
   replace c6 := Bool.eq_false_iff.mpr c6
   subst c6
   (try rw [if_neg (show ¬ (false = true) by decide)] at H)
   obtain rfl := Option.some.inj H
   go_enter Try.func94, Try.ntmps94
   go_wp2_with (first | ((with_reducible refine gate_dst (N := 1) rfl ?_); refine box_event ?hg (N := 1) ?hd (cs := #[.int .i64 a0_0, .int .i64 a0_1, .slice A0_2 l0_2.length c0_2, .slice A0_3 l0_3.length c0_3, .int .i64 a0_4, .int .i64 a0_5]) (t := 104) ?hr ?_; (case hd => rfl); (case hg => rfl); (case hr => first | (go_simp; done) | (go_simp; rfl)); intro gb397 hg w11 hbox hb; have n0_ := Aside0.mk (below_step (HB_up HB.out) hb); have n1_ := Aside0.mk (hbox); have n2_ := Aside0.mk ((by rw [hg]; exact (below_size (HB_up HB.out)) : w.heap.size ≤ gb397)); have n3_ := Aside0.mk ((by rw [hg]; exact (below_size (HB_up HB.out)) : w.heap.size ≤ gb397)); clear HB; have HB := n0_; have BK397 := n1_; have GW397 := n2_; have GE397 := n3_; clear n0_ n1_ n2_ n3_; clear hb hbox hg; have hcz12_0 : w11.cell? ⟨gb397, 0, none⟩ = some (.int .i64 a0_0) := (blk_cell BK397.out 0).trans rfl; have hcz12_1 : w11.cell? ⟨gb397, 1, none⟩ = some (.int .i64 a0_1) := (blk_cell BK397.out 1).trans rfl; have hcz12_2 : w11.cell? ⟨gb397, 2, none⟩ = some (.slice A0_2 l0_2.length c0_2) := (blk_cell BK397.out 2).trans rfl; have hcz12_3 : w11.cell? ⟨gb397, 3, none⟩ = some (.slice A0_3 l0_3.length c0_3) := (blk_cell BK397.out 3).trans rfl; have hcz12_4 : w11.cell? ⟨gb397, 4, none⟩ = some (.int .i64 a0_4) := (blk_cell BK397.out 4).trans rfl; have hcz12_5 : w11.cell? ⟨gb397, 5, none⟩ = some (.int .i64 a0_5) := (blk_cell BK397.out 5).trans rfl; have hfz12_0 := blk_frozen BK397.out 0; have hfz12_1 := blk_frozen BK397.out 1; have hfz12_2 := blk_frozen BK397.out 2; have hfz12_3 := blk_frozen BK397.out 3; have hfz12_4 := blk_frozen BK397.out 4; have hfz12_5 := blk_frozen BK397.out 5) | ((with_reducible refine gate_callee (f := 132) rfl ?_); refine goesY_ (some 5) Try.func132 #[.int .i64 a0_0] rfl ?_; (with_reducible refine (impl_hasCodes.calls a0_0 true _ A2.out).mono ?_); rintro e w' ⟨rfl, ⟨nd, rfl⟩⟩; refine ⟨_, rfl, ?_⟩) | ((with_reducible refine gate_callee (f := 133) rfl ?_); refine goesY_ (some 9) Try.func133 #[.slice A0_2 l0_2.length c0_2] rfl ?_; (with_reducible refine (impl_length_int64.calls _ _ l0_2 t399 _ ?_ ?_ A4.out).mono ?_); exact Kd.C_below HR0_2.out (HB_up HB.out); exact HC0_2.out; rintro e w' ⟨rfl, ⟨nd, rfl⟩⟩; refine ⟨_, rfl, ?_⟩) | ((with_reducible refine gate_callee (f := 37) rfl ?_); refine goesY_ (some 10) Try.func37 #[.int .i64 t399, .int .i64 1, .int .i64 20] rfl ?_; (with_reducible refine (impl_within.calls t399 1 20 false _ A5.out).mono ?_); rintro e w' ⟨rfl, ⟨nd, rfl⟩⟩; refine ⟨_, rfl, ?_⟩))
   go_ret
   exact ⟨ve_, hs_⟩
 ·
  replace c3 := Bool.eq_false_iff.mpr c3
  subst c3
  (try rw [if_neg (show ¬ (false = true) by decide)] at H)
  obtain rfl := Option.some.inj H
  go_enter Try.func94, Try.ntmps94
  go_wp2_with (first | ((with_reducible refine gate_dst (N := 1) rfl ?_); refine box_event ?hg (N := 1) ?hd (cs := #[.int .i64 a0_0, .int .i64 a0_1, .slice A0_2 l0_2.length c0_2, .slice A0_3 l0_3.length c0_3, .int .i64 a0_4, .int .i64 a0_5]) (t := 104) ?hr ?_; (case hd => rfl); (case hg => rfl); (case hr => first | (go_simp; done) | (go_simp; rfl)); intro gb397 hg w13 hbox hb; have n0_ := Aside0.mk (below_step (HB_up HB.out) hb); have n1_ := Aside0.mk (hbox); have n2_ := Aside0.mk ((by rw [hg]; exact (below_size (HB_up HB.out)) : w.heap.size ≤ gb397)); have n3_ := Aside0.mk ((by rw [hg]; exact (below_size (HB_up HB.out)) : w.heap.size ≤ gb397)); clear HB; have HB := n0_; have BK397 := n1_; have GW397 := n2_; have GE397 := n3_; clear n0_ n1_ n2_ n3_; clear hb hbox hg; have hcz14_0 : w13.cell? ⟨gb397, 0, none⟩ = some (.int .i64 a0_0) := (blk_cell BK397.out 0).trans rfl; have hcz14_1 : w13.cell? ⟨gb397, 1, none⟩ = some (.int .i64 a0_1) := (blk_cell BK397.out 1).trans rfl; have hcz14_2 : w13.cell? ⟨gb397, 2, none⟩ = some (.slice A0_2 l0_2.length c0_2) := (blk_cell BK397.out 2).trans rfl; have hcz14_3 : w13.cell? ⟨gb397, 3, none⟩ = some (.slice A0_3 l0_3.length c0_3) := (blk_cell BK397.out 3).trans rfl; have hcz14_4 : w13.cell? ⟨gb397, 4, none⟩ = some (.int .i64 a0_4) := (blk_cell BK397.out 4).trans rfl; have hcz14_5 : w13.cell? ⟨gb397, 5, none⟩ = some (.int .i64 a0_5) := (blk_cell BK397.out 5).trans rfl; have hfz14_0 := blk_frozen BK397.out 0; have hfz14_1 := blk_frozen BK397.out 1; have hfz14_2 := blk_frozen BK397.out 2; have hfz14_3 := blk_frozen BK397.out 3; have hfz14_4 := blk_frozen BK397.out 4; have hfz14_5 := blk_frozen BK397.out 5) | ((with_reducible refine gate_callee (f := 132) rfl ?_); refine goesY_ (some 5) Try.func132 #[.int .i64 a0_0] rfl ?_; (with_reducible refine (impl_hasCodes.calls a0_0 false _ A2.out).mono ?_); rintro e w' ⟨rfl, ⟨nd, rfl⟩⟩; refine ⟨_, rfl, ?_⟩))
  go_ret
  exact ⟨ve_, hs_⟩

end Go.Proofs.Ytnehephjliankaa.PFnExactCmdFault

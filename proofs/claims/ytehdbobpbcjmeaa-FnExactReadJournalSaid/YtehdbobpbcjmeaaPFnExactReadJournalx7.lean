/- Functions of the program as Lean functions, each with the proof that its call comes to what that function says (texts written by a program of this session). Conditions: those that stand in each theorem. -/
import Derived.Test.YtehdbobpbcjmeaaPFnExactReadJournalx0
import Derived.Test.YtehdbobpbcjmeaaPFnExactReadJournalx5
import Derived.Test.YtehdbobpbcjmeaaPFnExactReadJournalx6
namespace Go.Proofs.Ytehdbobpbcjmeaa.PFnExactReadJournal
open Go.RowKit Go.Proofs.YtehdbobpbcjmeaaW.PrintWords Go.Proofs.YtehdbobpbcjmeaaW.PrintLast Go.Proofs.YtehdbobpbcjmeaaW.PrintMore
attribute [local go_sem] max2_int min2_int max_two min_two max_three min_three max_four min_four   -- for this text's walks alone
set_option linter.unusedVariables false
set_option linter.unusedSimpArgs false

/-! ### impl_OpFault: function 44 -/
mutual
def impl_OpFault.j0 : Nat → Bool → Int → ByteArray → ByteArray → List Int → Int → Int → Int → List Int → Option (Int)
 | 0, _, _, _, _, _, _, _, _, _ => none
 | k + 1, x3, x343000, x343001, x343002, x343003, x343004, x343005, x343006, x343007 => if x3 = true then (some 1) else ((impl_isName.f k x343001).bind fun t345 => (if t345 = true then ((impl_Op_hasTo.f x343000 x343001 x343002 x343003 x343004 x343005 x343006 x343007).bind fun t346 => (if t346 = true then ((impl_isName.f k x343002).bind fun t347 => (impl_OpFault.j1 k (!t347) x343000 x343001 x343002 x343003 x343004 x343005 x343006 x343007)) else (impl_OpFault.j1 k false x343000 x343001 x343002 x343003 x343004 x343005 x343006 x343007))) else (impl_OpFault.j1 k true x343000 x343001 x343002 x343003 x343004 x343005 x343006 x343007)))
def impl_OpFault.j1 : Nat → Bool → Int → ByteArray → ByteArray → List Int → Int → Int → Int → List Int → Option (Int)
 | 0, _, _, _, _, _, _, _, _, _ => none
 | k + 1, x13, x343000, x343001, x343002, x343003, x343004, x343005, x343006, x343007 => if x13 = true then (some 5) else (if (x343003.length : Int) > 6 then (some 2) else ((impl_areUids.f k x343003).bind fun t348 => (if t348 = true then (if x343000 = 4 then ((impl_within.f x343004 1 3).bind fun t349 => (if t349 = true then ((impl_areFlags.f x343005).bind fun t350 => (if t350 = true then ((impl_isDate.f x343006).bind fun t351 => (impl_OpFault.j2 k (!t351) x343000 x343001 x343002 x343003 x343004 x343005 x343006 x343007)) else (impl_OpFault.j2 k true x343000 x343001 x343002 x343003 x343004 x343005 x343006 x343007))) else (impl_OpFault.j2 k true x343000 x343001 x343002 x343003 x343004 x343005 x343006 x343007))) else ((impl_areFlags.f x343005).bind fun t352 => (if t352 = true then ((impl_isDate.f x343006).bind fun t353 => (impl_OpFault.j2 k (!t353) x343000 x343001 x343002 x343003 x343004 x343005 x343006 x343007)) else (impl_OpFault.j2 k true x343000 x343001 x343002 x343003 x343004 x343005 x343006 x343007)))) else (impl_OpFault.j2 k true x343000 x343001 x343002 x343003 x343004 x343005 x343006 x343007))))
def impl_OpFault.j2 : Nat → Bool → Int → ByteArray → ByteArray → List Int → Int → Int → Int → List Int → Option (Int)
 | 0, _, _, _, _, _, _, _, _, _ => none
 | k + 1, x33, x343000, x343001, x343002, x343003, x343004, x343005, x343006, x343007 => if x33 = true then (some 3) else (if (x343007.length : Int) > 400 then (some 2) else (some 0))
end
def impl_OpFault.f (k : Nat) (a0_0 : Int) (a0_1 : ByteArray) (a0_2 : ByteArray) (l0_3 : List Int) (a0_4 : Int) (a0_5 : Int) (a0_6 : Int) (l0_7 : List Int) : Option (Int) := (impl_within.f a0_0 1 7).bind fun t343 => (if t343 = true then ((impl_Op_isOnly.f a0_0 a0_1 a0_2 l0_3 a0_4 a0_5 a0_6 l0_7).bind fun t344 => (impl_OpFault.j0 k (!t344) a0_0 a0_1 a0_2 l0_3 a0_4 a0_5 a0_6 l0_7)) else (impl_OpFault.j0 k true a0_0 a0_1 a0_2 l0_3 a0_4 a0_5 a0_6 l0_7))
set_option maxHeartbeats 8000000 in
set_option maxRecDepth 100000 in
theorem impl_OpFault.calls (k : Nat) (a0_0 : Int) (a0_1 : ByteArray) (a0_2 : ByteArray) (A0_3 : Option Addr) (c0_3 : Nat) (l0_3 : List Int) (a0_4 : Int) (a0_5 : Int) (a0_6 : Int) (A0_7 : Option Addr) (c0_7 : Nat) (l0_7 : List Int) (r : Int) (w : World) (hr0_3 : Kd.C (Kd.int .i64) w A0_3 l0_3.length l0_3) (hc0_3 : l0_3.length ≤ c0_3) (hr0_7 : Kd.C (Kd.int .u8) w A0_7 l0_7.length l0_7) (hc0_7 : l0_7.length ≤ c0_7) (h : impl_OpFault.f k a0_0 a0_1 a0_2 l0_3 a0_4 a0_5 a0_6 l0_7 = some r) :
 Calls Try.prog 44 #[.agg #[.int .i64 a0_0, .string a0_1, .string a0_2, .slice A0_3 l0_3.length c0_3, .int .i64 a0_4, .int .i64 a0_5, .int .i64 a0_6, .slice A0_7 l0_7.length c0_7]] w fun e w' => e = .returned (.int .i64 r) ∧ Below w.heap.size w w' := by
 have hu37 := Try.underlying37
 have HR0_3 := Aside0.mk hr0_3
 have HC0_3 := Aside0.mk hc0_3
 clear hr0_3 hc0_3
 have HR0_7 := Aside0.mk hr0_7
 have HC0_7 := Aside0.mk hc0_7
 clear hr0_7 hc0_7
 have HB := Aside0.mk (Below.refl w.heap.size w)
 have H : ((impl_within.f a0_0 1 7).bind fun t343 => (if t343 = true then ((impl_Op_isOnly.f a0_0 a0_1 a0_2 l0_3 a0_4 a0_5 a0_6 l0_7).bind fun t344 => (impl_OpFault.j0 k (!t344) a0_0 a0_1 a0_2 l0_3 a0_4 a0_5 a0_6 l0_7)) else (impl_OpFault.j0 k true a0_0 a0_1 a0_2 l0_3 a0_4 a0_5 a0_6 l0_7))) = some r := h
 clear h
 have HC2 := Aside0.mk H
 clear H
 go_enter Try.func44, Try.ntmps44
 go_upto_region 1 with (first | ((with_reducible refine gate_dst (N := 1) rfl ?_); refine box_event ?hg (N := 1) ?hd (cs := #[.int .i64 a0_0, .string a0_1, .string a0_2, .slice A0_3 l0_3.length c0_3, .int .i64 a0_4, .int .i64 a0_5, .int .i64 a0_6, .slice A0_7 l0_7.length c0_7]) (t := 37) ?hr ?_; (case hd => rfl); (case hg => rfl); (case hr => first | (go_simp; done) | (go_simp; rfl)); intro gb342 hg w3 hbox hb; have n0_ := Aside0.mk (below_step (HB_up HB.out) hb); have n1_ := Aside0.mk (hbox); have n2_ := Aside0.mk ((by rw [hg]; exact (below_size (HB_up HB.out)) : w.heap.size ≤ gb342)); have n3_ := Aside0.mk ((by rw [hg]; exact (below_size (HB_up HB.out)) : w.heap.size ≤ gb342)); clear HB; have HB := n0_; have BK342 := n1_; have GW342 := n2_; have GE342 := n3_; clear n0_ n1_ n2_ n3_; clear hb hbox hg))
 (try simp only [Act.put, List.setIfInBounds_toArray, List.set_cons_zero, List.set_cons_succ])
 go_cut [3] (fun v3 wc => ∃ (kq : Nat) (x3_1 : Bool), v3 = .bool x3_1 ∧ Aside0 (impl_OpFault.j0 kq x3_1 a0_0 a0_1 a0_2 l0_3 a0_4 a0_5 a0_6 l0_7 = some r) ∧ Aside0 (kq ≤ k) ∧ Aside0 (wc.heap[gb342]? = some (.cells #[.int .i64 a0_0, .string a0_1, .string a0_2, (.slice A0_3 l0_3.length c0_3), .int .i64 a0_4, .int .i64 a0_5, .int .i64 a0_6, (.slice A0_7 l0_7.length c0_7)] 37 (0, 0))) ∧ Aside0 (Below w.heap.size w wc))
 case first =>
  have H := HC2.out
  clear HC2
  replace H := Option.bind_eq_some_iff.mp H
  obtain ⟨t343, A40, H⟩ := H
  (try dsimp only at H)
  have A4 := Aside0.mk A40
  clear A40
  by_cases c5 : t343 = true
  ·
   subst c5
   (try rw [if_pos rfl] at H)
   replace H := Option.bind_eq_some_iff.mp H
   obtain ⟨t344, A60, H⟩ := H
   (try dsimp only at H)
   have A6 := Aside0.mk A60
   clear A60
   have H' := Aside0.mk H
   clear H
   obtain ⟨_, _, _, _, _, _, _, _⟩ := blk_cells8 BK342.out
   obtain ⟨_, _, _, _, _, _, _, _⟩ := blk_frozen8 BK342.out
   go_wp2_with (first | ((with_reducible refine gate_callee (f := 76) rfl ?_); refine goesY_ (some 6) Try.func76 #[.int .i64 a0_0, .int .i64 1, .int .i64 7] rfl ?_; (with_reducible refine (impl_within.calls a0_0 1 7 true _ A4.out).mono ?_); rintro e w' ⟨rfl, ⟨nd, rfl⟩⟩; refine ⟨_, rfl, ?_⟩) | (go_at_call 77; (with_reducible refine (impl_Op_isOnly.calls a0_0 a0_1 a0_2 _ _ l0_3 a0_4 a0_5 a0_6 _ _ l0_7 t344 _ ?_ ?_ ?_ ?_ A6.out).mono ?_); exact Kd.C_below HR0_3.out (HB_up HB.out); exact HC0_3.out; exact Kd.C_below HR0_7.out (HB_up HB.out); exact HC0_7.out; rintro e w8 ⟨rfl, hb⟩; replace BK342 := Aside0.mk (blk_below (g := gb342) (blk_up BK342.out) hb); replace HB := Aside0.mk (below_step (HB_up HB.out) hb); (try clear hb)))
   go_meet
   case rel => exact ⟨_, (!t344), vl_, H', ⟨le_⟩, ⟨blk_up BK342.out⟩, ⟨hs_⟩⟩
  ·
   replace c5 := Bool.eq_false_iff.mpr c5
   subst c5
   (try rw [if_neg (show ¬ (false = true) by decide)] at H)
   have H' := Aside0.mk H
   clear H
   obtain ⟨_, _, _, _, _, _, _, _⟩ := blk_cells8 BK342.out
   obtain ⟨_, _, _, _, _, _, _, _⟩ := blk_frozen8 BK342.out
   go_wp2_with (first | ((with_reducible refine gate_callee (f := 76) rfl ?_); refine goesY_ (some 6) Try.func76 #[.int .i64 a0_0, .int .i64 1, .int .i64 7] rfl ?_; (with_reducible refine (impl_within.calls a0_0 1 7 false _ A4.out).mono ?_); rintro e w' ⟨rfl, ⟨nd, rfl⟩⟩; refine ⟨_, rfl, ?_⟩))
   go_meet
   case rel => exact ⟨_, (true), vl_, H', ⟨le_⟩, ⟨blk_up BK342.out⟩, ⟨hs_⟩⟩
 case rest =>
  clear HC2
  obtain ⟨kq, x3_1, rfl, HA, HJ1, BK342, HB⟩ := hcut
  cases kq with
  | zero => exact absurd HA.out (by simp [impl_OpFault.j0])
  | succ kj1 =>
    have H := HA.out
    clear HA
    simp only [impl_OpFault.j0] at H
    by_cases c10 : x3_1 = true
    ·
     subst c10
     (try rw [if_pos rfl] at H)
     obtain rfl := Option.some.inj H
     go_wp2
     go_ret
     exact ⟨ve_, hs_⟩
    ·
     replace c10 := Bool.eq_false_iff.mpr c10
     subst c10
     (try rw [if_neg (show ¬ (false = true) by decide)] at H)
     have HC11 := Aside0.mk H
     clear H
     go_upto_region 3 with (fail)
     go_cut [13] (fun v13 wc => ∃ (kq : Nat) (x13_10 : Bool), v13 = .bool x13_10 ∧ Aside0 (impl_OpFault.j1 kq x13_10 a0_0 a0_1 a0_2 l0_3 a0_4 a0_5 a0_6 l0_7 = some r) ∧ Aside0 (kq ≤ kj1) ∧ Aside0 (wc.heap[gb342]? = some (.cells #[.int .i64 a0_0, .string a0_1, .string a0_2, (.slice A0_3 l0_3.length c0_3), .int .i64 a0_4, .int .i64 a0_5, .int .i64 a0_6, (.slice A0_7 l0_7.length c0_7)] 37 (0, 0))) ∧ Aside0 (Below w.heap.size w wc))
     case first =>
      have H := HC11.out
      clear HC11
      replace H := Option.bind_eq_some_iff.mp H
      obtain ⟨t345, A120, H⟩ := H
      (try dsimp only at H)
      have A12 := Aside0.mk A120
      clear A120
      by_cases c13 : t345 = true
      ·
       subst c13
       (try rw [if_pos rfl] at H)
       replace H := Option.bind_eq_some_iff.mp H
       obtain ⟨t346, A140, H⟩ := H
       (try dsimp only at H)
       have A14 := Aside0.mk A140
       clear A140
       by_cases c15 : t346 = true
       ·
        subst c15
        (try rw [if_pos rfl] at H)
        replace H := Option.bind_eq_some_iff.mp H
        obtain ⟨t347, A160, H⟩ := H
        (try dsimp only at H)
        have A16 := Aside0.mk A160
        clear A160
        have H' := Aside0.mk H
        clear H
        obtain ⟨_, _, _, _, _, _, _, _⟩ := blk_cells8 BK342.out
        obtain ⟨_, _, _, _, _, _, _, _⟩ := blk_frozen8 BK342.out
        go_wp2_with (first | ((with_reducible refine gate_callee (f := 78) rfl ?_); refine goesY_ (some 16) Try.func78 #[.string a0_1] rfl ?_; (with_reducible refine (impl_isName.calls kj1 a0_1 true _ A12.out).mono ?_); rintro e w' ⟨rfl, ⟨nd, rfl⟩⟩; refine ⟨_, rfl, ?_⟩) | (go_at_call 79; (with_reducible refine (impl_Op_hasTo.calls a0_0 a0_1 a0_2 _ _ l0_3 a0_4 a0_5 a0_6 _ _ l0_7 true _ ?_ ?_ ?_ ?_ A14.out).mono ?_); exact Kd.C_below HR0_3.out (HB_up HB.out); exact HC0_3.out; exact Kd.C_below HR0_7.out (HB_up HB.out); exact HC0_7.out; rintro e w18 ⟨rfl, hb⟩; replace BK342 := Aside0.mk (blk_below (g := gb342) (blk_up BK342.out) hb); replace HB := Aside0.mk (below_step (HB_up HB.out) hb); (try clear hb); obtain ⟨_, _, _, _, _, _, _, _⟩ := blk_cells8 BK342.out; obtain ⟨_, _, _, _, _, _, _, _⟩ := blk_frozen8 BK342.out) | (go_at_call 78; (with_reducible refine (impl_isName.calls kj1 a0_2 t347 _ A16.out).mono ?_); rintro e w' ⟨rfl, ⟨nd, rfl⟩⟩))
        go_meet
        case rel => exact ⟨_, (!t347), vl_, H', ⟨by have := HJ1.out; first | omega | exact Nat.le_refl _⟩, ⟨blk_up BK342.out⟩, ⟨hs_⟩⟩
       ·
        replace c15 := Bool.eq_false_iff.mpr c15
        subst c15
        (try rw [if_neg (show ¬ (false = true) by decide)] at H)
        have H' := Aside0.mk H
        clear H
        obtain ⟨_, _, _, _, _, _, _, _⟩ := blk_cells8 BK342.out
        obtain ⟨_, _, _, _, _, _, _, _⟩ := blk_frozen8 BK342.out
        go_wp2_with (first | ((with_reducible refine gate_callee (f := 78) rfl ?_); refine goesY_ (some 16) Try.func78 #[.string a0_1] rfl ?_; (with_reducible refine (impl_isName.calls kj1 a0_1 true _ A12.out).mono ?_); rintro e w' ⟨rfl, ⟨nd, rfl⟩⟩; refine ⟨_, rfl, ?_⟩) | (go_at_call 79; (with_reducible refine (impl_Op_hasTo.calls a0_0 a0_1 a0_2 _ _ l0_3 a0_4 a0_5 a0_6 _ _ l0_7 false _ ?_ ?_ ?_ ?_ A14.out).mono ?_); exact Kd.C_below HR0_3.out (HB_up HB.out); exact HC0_3.out; exact Kd.C_below HR0_7.out (HB_up HB.out); exact HC0_7.out; rintro e w21 ⟨rfl, hb⟩; replace BK342 := Aside0.mk (blk_below (g := gb342) (blk_up BK342.out) hb); replace HB := Aside0.mk (below_step (HB_up HB.out) hb); (try clear hb)))
        go_meet
        case rel => exact ⟨_, (false), vl_, H', ⟨by have := HJ1.out; first | omega | exact Nat.le_refl _⟩, ⟨blk_up BK342.out⟩, ⟨hs_⟩⟩
      ·
       replace c13 := Bool.eq_false_iff.mpr c13
       subst c13
       (try rw [if_neg (show ¬ (false = true) by decide)] at H)
       have H' := Aside0.mk H
       clear H
       obtain ⟨_, _, _, _, _, _, _, _⟩ := blk_cells8 BK342.out
       obtain ⟨_, _, _, _, _, _, _, _⟩ := blk_frozen8 BK342.out
       go_wp2_with (first | ((with_reducible refine gate_callee (f := 78) rfl ?_); refine goesY_ (some 16) Try.func78 #[.string a0_1] rfl ?_; (with_reducible refine (impl_isName.calls kj1 a0_1 false _ A12.out).mono ?_); rintro e w' ⟨rfl, ⟨nd, rfl⟩⟩; refine ⟨_, rfl, ?_⟩))
       go_meet
       case rel => exact ⟨_, (true), vl_, H', ⟨by have := HJ1.out; first | omega | exact Nat.le_refl _⟩, ⟨blk_up BK342.out⟩, ⟨hs_⟩⟩
     case rest =>
      clear HC11
      try clear c10
      obtain ⟨kq, x13_10, rfl, HA, HJ10, BK342, HB⟩ := hcut
      cases kq with
      | zero => exact absurd HA.out (by simp [impl_OpFault.j1])
      | succ kj10 =>
        have H := HA.out
        clear HA
        simp only [impl_OpFault.j1] at H
        by_cases c23 : x13_10 = true
        ·
         subst c23
         (try rw [if_pos rfl] at H)
         obtain rfl := Option.some.inj H
         go_wp2
         go_ret
         exact ⟨ve_, hs_⟩
        ·
         replace c23 := Bool.eq_false_iff.mpr c23
         subst c23
         (try rw [if_neg (show ¬ (false = true) by decide)] at H)
         by_cases c24 : (l0_3.length : Int) > 6
         ·
          rw [if_pos c24] at H
          have c24b0 : decide (6 < (l0_3.length : Int)) = true := decide_eq_true c24
          have c24b1 : decide (6 < l0_3.length) = true := decide_eq_true (by omega)
          clear c24
          obtain rfl := Option.some.inj H
          obtain ⟨_, _, _, _, _, _, _, _⟩ := blk_cells8 BK342.out
          obtain ⟨_, _, _, _, _, _, _, _⟩ := blk_frozen8 BK342.out
          go_wp2
          go_ret
          exact ⟨ve_, hs_⟩
         ·
          rw [if_neg c24] at H
          have c24b0 : decide (6 < (l0_3.length : Int)) = false := decide_eq_false c24
          have c24b1 : decide (6 < l0_3.length) = false := decide_eq_false (by omega)
          clear c24
          have HC26 := Aside0.mk H
          clear H
          obtain ⟨hcz27_0, hcz27_1, hcz27_2, hcz27_3, hcz27_4, hcz27_5, hcz27_6, hcz27_7⟩ := blk_cells8 BK342.out
          obtain ⟨hfz27_0, hfz27_1, hfz27_2, hfz27_3, hfz27_4, hfz27_5, hfz27_6, hfz27_7⟩ := blk_frozen8 BK342.out
          go_upto_region 7 with (fail)
          go_cut [33] (fun v33 wc => ∃ (kq : Nat) (x33_25 : Bool), v33 = .bool x33_25 ∧ Aside0 (impl_OpFault.j2 kq x33_25 a0_0 a0_1 a0_2 l0_3 a0_4 a0_5 a0_6 l0_7 = some r) ∧ Aside0 (kq ≤ kj10) ∧ Aside0 (wc.heap[gb342]? = some (.cells #[.int .i64 a0_0, .string a0_1, .string a0_2, (.slice A0_3 l0_3.length c0_3), .int .i64 a0_4, .int .i64 a0_5, .int .i64 a0_6, (.slice A0_7 l0_7.length c0_7)] 37 (0, 0))) ∧ Aside0 (Below w.heap.size w wc))
          case first =>
           have H := HC26.out
           clear HC26
           replace H := Option.bind_eq_some_iff.mp H
           obtain ⟨t348, A280, H⟩ := H
           (try dsimp only at H)
           have A28 := Aside0.mk A280
           clear A280
           by_cases c29 : t348 = true
           ·
            subst c29
            (try rw [if_pos rfl] at H)
            by_cases c30 : a0_0 = 4
            ·
             rw [if_pos c30] at H
             have c30b0 : (a0_0 == 4) = true := beq_iff_eq.mpr c30
             have c30b1 : (a0_0 != 4) = false := bne_eq_false_iff_eq.mpr c30
             clear c30
             (first | rw [c30b0] | (simp only [i64_w, i32_w]; rw [c30b0]) | skip)
             replace H := Option.bind_eq_some_iff.mp H
             obtain ⟨t349, A310, H⟩ := H
             (try dsimp only at H)
             have A31 := Aside0.mk A310
             clear A310
             by_cases c32 : t349 = true
             ·
              subst c32
              (try rw [if_pos rfl] at H)
              replace H := Option.bind_eq_some_iff.mp H
              obtain ⟨t350, A330, H⟩ := H
              (try dsimp only at H)
              have A33 := Aside0.mk A330
              clear A330
              by_cases c34 : t350 = true
              ·
               subst c34
               (try rw [if_pos rfl] at H)
               replace H := Option.bind_eq_some_iff.mp H
               obtain ⟨t351, A350, H⟩ := H
               (try dsimp only at H)
               have A35 := Aside0.mk A350
               clear A350
               have H' := Aside0.mk H
               clear H
               obtain ⟨_, _, _, _, _, _, _, _⟩ := blk_cells8 BK342.out
               obtain ⟨_, _, _, _, _, _, _, _⟩ := blk_frozen8 BK342.out
               go_wp2_with (first | ((with_reducible refine gate_callee (f := 80) rfl ?_); refine goesY_ (some 36) Try.func80 #[.slice A0_3 l0_3.length c0_3] rfl ?_; (with_reducible refine (impl_areUids.calls kj10 _ _ l0_3 true _ ?_ ?_ A28.out).mono ?_); exact C_up (Kd.C_below HR0_3.out HB.out); exact HC0_3.out; rintro e w' ⟨rfl, ⟨nd, rfl⟩⟩; refine ⟨_, rfl, ?_⟩) | (go_at_call 76; (with_reducible refine (impl_within.calls a0_4 1 3 true _ A31.out).mono ?_); rintro e w' ⟨rfl, ⟨nd, rfl⟩⟩) | (go_at_call 81; (with_reducible refine (impl_areFlags.calls a0_5 true _ A33.out).mono ?_); rintro e w' ⟨rfl, ⟨nd, rfl⟩⟩) | (go_at_call 82; (with_reducible refine (impl_isDate.calls a0_6 t351 _ A35.out).mono ?_); rintro e w' ⟨rfl, ⟨nd, rfl⟩⟩))
               go_meet
               case rel => exact ⟨_, (!t351), vl_, H', ⟨by have := HJ1.out; have := HJ10.out; first | omega | exact Nat.le_refl _⟩, ⟨blk_up BK342.out⟩, ⟨hs_⟩⟩
              ·
               replace c34 := Bool.eq_false_iff.mpr c34
               subst c34
               (try rw [if_neg (show ¬ (false = true) by decide)] at H)
               have H' := Aside0.mk H
               clear H
               obtain ⟨_, _, _, _, _, _, _, _⟩ := blk_cells8 BK342.out
               obtain ⟨_, _, _, _, _, _, _, _⟩ := blk_frozen8 BK342.out
               go_wp2_with (first | ((with_reducible refine gate_callee (f := 80) rfl ?_); refine goesY_ (some 36) Try.func80 #[.slice A0_3 l0_3.length c0_3] rfl ?_; (with_reducible refine (impl_areUids.calls kj10 _ _ l0_3 true _ ?_ ?_ A28.out).mono ?_); exact C_up (Kd.C_below HR0_3.out HB.out); exact HC0_3.out; rintro e w' ⟨rfl, ⟨nd, rfl⟩⟩; refine ⟨_, rfl, ?_⟩) | (go_at_call 76; (with_reducible refine (impl_within.calls a0_4 1 3 true _ A31.out).mono ?_); rintro e w' ⟨rfl, ⟨nd, rfl⟩⟩) | (go_at_call 81; (with_reducible refine (impl_areFlags.calls a0_5 false _ A33.out).mono ?_); rintro e w' ⟨rfl, ⟨nd, rfl⟩⟩))
               go_meet
               case rel => exact ⟨_, (true), vl_, H', ⟨by have := HJ1.out; have := HJ10.out; first | omega | exact Nat.le_refl _⟩, ⟨blk_up BK342.out⟩, ⟨hs_⟩⟩
             ·
              replace c32 := Bool.eq_false_iff.mpr c32
              subst c32
              (try rw [if_neg (show ¬ (false = true) by decide)] at H)
              have H' := Aside0.mk H
              clear H
              obtain ⟨_, _, _, _, _, _, _, _⟩ := blk_cells8 BK342.out
              obtain ⟨_, _, _, _, _, _, _, _⟩ := blk_frozen8 BK342.out
              go_wp2_with (first | ((with_reducible refine gate_callee (f := 80) rfl ?_); refine goesY_ (some 36) Try.func80 #[.slice A0_3 l0_3.length c0_3] rfl ?_; (with_reducible refine (impl_areUids.calls kj10 _ _ l0_3 true _ ?_ ?_ A28.out).mono ?_); exact C_up (Kd.C_below HR0_3.out HB.out); exact HC0_3.out; rintro e w' ⟨rfl, ⟨nd, rfl⟩⟩; refine ⟨_, rfl, ?_⟩) | (go_at_call 76; (with_reducible refine (impl_within.calls a0_4 1 3 false _ A31.out).mono ?_); rintro e w' ⟨rfl, ⟨nd, rfl⟩⟩))
              go_meet
              case rel => exact ⟨_, (true), vl_, H', ⟨by have := HJ1.out; have := HJ10.out; first | omega | exact Nat.le_refl _⟩, ⟨blk_up BK342.out⟩, ⟨hs_⟩⟩
            ·
             rw [if_neg c30] at H
             have c30b0 : (a0_0 == 4) = false := beq_eq_false_iff_ne.mpr c30
             have c30b1 : (a0_0 != 4) = true := bne_iff_ne.mpr c30
             (first | rw [c30b0] | (simp only [i64_w, i32_w]; rw [c30b0]) | skip)
             replace H := Option.bind_eq_some_iff.mp H
             obtain ⟨t352, A390, H⟩ := H
             (try dsimp only at H)
             have A39 := Aside0.mk A390
             clear A390
             by_cases c40 : t352 = true
             ·
              subst c40
              (try rw [if_pos rfl] at H)
              replace H := Option.bind_eq_some_iff.mp H
              obtain ⟨t353, A410, H⟩ := H
              (try dsimp only at H)
              have A41 := Aside0.mk A410
              clear A410
              have H' := Aside0.mk H
              clear H
              obtain ⟨_, _, _, _, _, _, _, _⟩ := blk_cells8 BK342.out
              obtain ⟨_, _, _, _, _, _, _, _⟩ := blk_frozen8 BK342.out
              go_wp2_with (first | ((with_reducible refine gate_callee (f := 80) rfl ?_); refine goesY_ (some 36) Try.func80 #[.slice A0_3 l0_3.length c0_3] rfl ?_; (with_reducible refine (impl_areUids.calls kj10 _ _ l0_3 true _ ?_ ?_ A28.out).mono ?_); exact C_up (Kd.C_below HR0_3.out HB.out); exact HC0_3.out; rintro e w' ⟨rfl, ⟨nd, rfl⟩⟩; refine ⟨_, rfl, ?_⟩) | (go_at_call 81; (with_reducible refine (impl_areFlags.calls a0_5 true _ A39.out).mono ?_); rintro e w' ⟨rfl, ⟨nd, rfl⟩⟩) | (go_at_call 82; (with_reducible refine (impl_isDate.calls a0_6 t353 _ A41.out).mono ?_); rintro e w' ⟨rfl, ⟨nd, rfl⟩⟩))
              go_meet
              case rel => exact ⟨_, (!t353), vl_, H', ⟨by have := HJ1.out; have := HJ10.out; first | omega | exact Nat.le_refl _⟩, ⟨blk_up BK342.out⟩, ⟨hs_⟩⟩
             ·
              replace c40 := Bool.eq_false_iff.mpr c40
              subst c40
              (try rw [if_neg (show ¬ (false = true) by decide)] at H)
              have H' := Aside0.mk H
              clear H
              obtain ⟨_, _, _, _, _, _, _, _⟩ := blk_cells8 BK342.out
              obtain ⟨_, _, _, _, _, _, _, _⟩ := blk_frozen8 BK342.out
              go_wp2_with (first | ((with_reducible refine gate_callee (f := 80) rfl ?_); refine goesY_ (some 36) Try.func80 #[.slice A0_3 l0_3.length c0_3] rfl ?_; (with_reducible refine (impl_areUids.calls kj10 _ _ l0_3 true _ ?_ ?_ A28.out).mono ?_); exact C_up (Kd.C_below HR0_3.out HB.out); exact HC0_3.out; rintro e w' ⟨rfl, ⟨nd, rfl⟩⟩; refine ⟨_, rfl, ?_⟩) | (go_at_call 81; (with_reducible refine (impl_areFlags.calls a0_5 false _ A39.out).mono ?_); rintro e w' ⟨rfl, ⟨nd, rfl⟩⟩))
              go_meet
              case rel => exact ⟨_, (true), vl_, H', ⟨by have := HJ1.out; have := HJ10.out; first | omega | exact Nat.le_refl _⟩, ⟨blk_up BK342.out⟩, ⟨hs_⟩⟩
           ·
            replace c29 := Bool.eq_false_iff.mpr c29
            subst c29
            (try rw [if_neg (show ¬ (false = true) by decide)] at H)
            have H' := Aside0.mk H
            clear H
            obtain ⟨_, _, _, _, _, _, _, _⟩ := blk_cells8 BK342.out
            obtain ⟨_, _, _, _, _, _, _, _⟩ := blk_frozen8 BK342.out
            go_wp2_with (first | ((with_reducible refine gate_callee (f := 80) rfl ?_); refine goesY_ (some 36) Try.func80 #[.slice A0_3 l0_3.length c0_3] rfl ?_; (with_reducible refine (impl_areUids.calls kj10 _ _ l0_3 false _ ?_ ?_ A28.out).mono ?_); exact C_up (Kd.C_below HR0_3.out HB.out); exact HC0_3.out; rintro e w' ⟨rfl, ⟨nd, rfl⟩⟩; refine ⟨_, rfl, ?_⟩))
            go_meet
            case rel => exact ⟨_, (true), vl_, H', ⟨by have := HJ1.out; have := HJ10.out; first | omega | exact Nat.le_refl _⟩, ⟨blk_up BK342.out⟩, ⟨hs_⟩⟩
          case rest =>
           clear HC26
           try clear c10
           try clear c23
           try clear c24
           try clear c24b0
           try clear c24b1
           try clear hcz27_0
           try clear hcz27_1
           try clear hcz27_2
           try clear hcz27_3
           try clear hcz27_4
           try clear hcz27_5
           try clear hcz27_6
           try clear hcz27_7
           try clear hfz27_0
           try clear hfz27_1
           try clear hfz27_2
           try clear hfz27_3
           try clear hfz27_4
           try clear hfz27_5
           try clear hfz27_6
           try clear hfz27_7
           obtain ⟨kq, x33_25, rfl, HA, HJ25, BK342, HB⟩ := hcut
           cases kq with
           | zero => exact absurd HA.out (by simp [impl_OpFault.j2])
           | succ kj25 =>
             have H := HA.out
             clear HA
             simp only [impl_OpFault.j2] at H
             by_cases c45 : x33_25 = true
             ·
              subst c45
              (try rw [if_pos rfl] at H)
              obtain rfl := Option.some.inj H
              go_wp2
              go_ret
              exact ⟨ve_, hs_⟩
             ·
              replace c45 := Bool.eq_false_iff.mpr c45
              subst c45
              (try rw [if_neg (show ¬ (false = true) by decide)] at H)
              by_cases c46 : (l0_7.length : Int) > 400
              ·
               rw [if_pos c46] at H
               have c46b0 : decide (400 < (l0_7.length : Int)) = true := decide_eq_true c46
               have c46b1 : decide (400 < l0_7.length) = true := decide_eq_true (by omega)
               clear c46
               obtain rfl := Option.some.inj H
               obtain ⟨_, _, _, _, _, _, _, _⟩ := blk_cells8 BK342.out
               obtain ⟨_, _, _, _, _, _, _, _⟩ := blk_frozen8 BK342.out
               go_wp2
               go_ret
               exact ⟨ve_, hs_⟩
              ·
               rw [if_neg c46] at H
               have c46b0 : decide (400 < (l0_7.length : Int)) = false := decide_eq_false c46
               have c46b1 : decide (400 < l0_7.length) = false := decide_eq_false (by omega)
               clear c46
               obtain rfl := Option.some.inj H
               obtain ⟨_, _, _, _, _, _, _, _⟩ := blk_cells8 BK342.out
               obtain ⟨_, _, _, _, _, _, _, _⟩ := blk_frozen8 BK342.out
               go_wp2
               go_ret
               exact ⟨ve_, hs_⟩

/-! ### impl_length_byte: function 88 -/
def impl_length_byte.f (l0 : List Int) : Option (Int) := some (l0.length : Int)
set_option maxHeartbeats 8000000 in
set_option maxRecDepth 100000 in
theorem impl_length_byte.calls (A0 : Option Addr) (c0 : Nat) (l0 : List Int) (r : Int) (w : World) (hr0 : Kd.C (Kd.int .u8) w A0 l0.length l0) (hc0 : l0.length ≤ c0) (h : impl_length_byte.f l0 = some r) :
 Calls Try.prog 88 #[.slice A0 l0.length c0] w fun e w' => e = .returned (.int .i64 r) ∧ Drawn0 w w' := by
 have HR0 := Aside0.mk hr0
 have HC0 := Aside0.mk hc0
 clear hr0 hc0
 have H : (some (l0.length : Int)) = some r := h
 clear h
 obtain rfl := Option.some.inj H
 go_enter Try.func88, Try.ntmps88
 go_wp2
 go_ret
 exact ⟨vl_, dr_⟩

/-! ### impl_two: function 96 -/
def impl_two.f (a0 : Int) : Option (List Int) := some (([(wrap64 (Int.tdiv a0 256)) % 256, (Int.tmod a0 256) % 256] : List Int))
set_option maxHeartbeats 8000000 in
set_option maxRecDepth 100000 in
theorem impl_two.calls (a0 : Int) (r : List Int) (w : World) (h : impl_two.f a0 = some r) :
 Calls Try.prog 96 #[.int .i64 a0] w fun e w' => ∃ v0_ : Value, e = .returned (v0_) ∧ Kd.R (Kd.int .u8) 5 w' w.heap.size (fun _ => True) v0_ r ∧ Below w.heap.size w w' := by
 have HB := Aside0.mk (Below.refl w.heap.size w)
 have H : (some (([(wrap64 (Int.tdiv a0 256)) % 256, (Int.tmod a0 256) % 256] : List Int))) = some r := h
 clear h
 obtain ⟨y354, hy354⟩ : ∃ y_ : List Int, y_ = (([(wrap64 (Int.tdiv a0 256)) % 256, (Int.tmod a0 256) % 256] : List Int)) := ⟨_, rfl⟩
 replace H : (some y354) = some r := by first | (rw [hy354]; with_reducible exact H) | (have H2_ := (Option.bind_some _ _).symm.trans H; rw [hy354]; with_reducible exact H2_) | (have H2_ := (Option.bind_some _ _).symm.trans H; with_reducible exact H2_) | with_reducible exact H | (rw [hy354]; exact H) | exact H
 have Ny354 := Aside0.mk hy354
 clear hy354
 obtain rfl := Option.some.inj H
 go_enter Try.func96, Try.ntmps96
 go_wp2_with (first | ((with_reducible refine gate_dst (N := 9) rfl ?_); refine Kd.R_lit (Kd.int .u8) _ 5 ?hg (N := 9) ?hd (xs := ([(wrap64 (Int.tdiv a0 256)) % 256, (Int.tmod a0 256) % 256] : List Int)) (inner := [.int .u8 ((wrap64 (Int.tdiv a0 256)) % 256), .int .u8 ((Int.tmod a0 256) % 256)]) (ok := fun _ => True) (okp := fun _ => True) ?hr ?hp (fun _ hk => hk) trivial (Below.refl _ _) (Nat.le_refl _) (by simp) ?_; (case hd => rfl); (case hg => rfl); (case hr => first | (go_simp; done) | (go_simp; rfl)); (case hp => exact (Reps.one (show Kd.M (Kd.int .u8) _ _ _ ((wrap64 (Int.tdiv a0 256)) % 256) [.int .u8 ((wrap64 (Int.tdiv a0 256)) % 256)] from rfl) (Reps.one (show Kd.M (Kd.int .u8) _ _ _ ((Int.tmod a0 256) % 256) [.int .u8 ((Int.tmod a0 256) % 256)] from rfl) (Reps.none _ _)))); intro v355 w2 ho3 hb hg_ hnew_; clear hg_ hnew_; (first | rw [← Ny354.out] at ho3 | (simp only [Int.reduceToNat] at ho3; rw [← Ny354.out] at ho3)); have HO356 := Aside0.mk (Kd.R_lower ho3 (below_size (HB_up HB.out))); replace HB := Aside0.mk (below_step (HB_up HB.out) hb); clear hb ho3))
 go_ret
 exact ⟨_, ve_, R_up HO356.out, hb_⟩

/-! ### impl_sumOf: function 97 -/
def impl_sumOf.l0 : Nat → Int → List Int → Int → Int → Option (Int)
 | 0, _, _, _, _ => none
 | k + 1, x3, x6, x7, x8 => if x8 < x7 then (if 0 ≤ x8 then (if x8 < (x6.length : Int) then (impl_sumOf.l0 k (Int.tmod (wrap64 ((wrap64 (x3 * 31)) + (wrap64 (rd x6 x8)))) 65521) x6 x7 (wrap64 (x8 + 1))) else (none)) else (none)) else (some x3)
def impl_sumOf.f (k : Nat) (l0 : List Int) : Option (Int) := impl_sumOf.l0 k 1 l0 (l0.length : Int) 0
set_option maxHeartbeats 8000000 in
set_option maxRecDepth 100000 in
theorem impl_sumOf.calls (k : Nat) (A0 : Option Addr) (c0 : Nat) (l0 : List Int) (r : Int) (w : World) (hr0 : Kd.C (Kd.int .u8) w A0 l0.length l0) (hc0 : l0.length ≤ c0) (h : impl_sumOf.f k l0 = some r) :
 Calls Try.prog 97 #[.slice A0 l0.length c0] w fun e w' => e = .returned (.int .i64 r) ∧ Drawn0 w w' := by
 have HR0 := Aside0.mk hr0
 have HC0 := Aside0.mk hc0
 clear hr0 hc0
 have H : (impl_sumOf.l0 k 1 l0 (l0.length : Int) 0) = some r := h
 clear h
 have H' := Aside0.mk H
 clear H
 go_enter Try.func97, Try.ntmps97
 go_wp2
 go_loopg [3, 8] k (fun kq v3 v8 w' => ∃ (x3_1 : Int) (x8_1 : Int), v3 = .int .i64 x3_1 ∧ v8 = .int .i64 x8_1 ∧ Aside0 (impl_sumOf.l0 kq x3_1 l0 (l0.length : Int) x8_1 = some r) ∧ Aside0 (kq ≤ k) ∧ Drawn0 w w')
 case atStart => exact ⟨(1), (0), vl_, vl_, H', ⟨Nat.le_refl _⟩, dr_⟩
 case round =>
  clear H'
  obtain ⟨x3_1, x8_1, rfl, rfl, HA, HK1, ⟨m1, rfl⟩⟩ := hrel
  cases gk with
  | zero => exact absurd HA.out (by simp [impl_sumOf.l0])
  | succ k1 =>
    have H := HA.out
    clear HA
    simp only [impl_sumOf.l0] at H
    by_cases c2 : x8_1 < (l0.length : Int)
    ·
     rw [if_pos c2] at H
     have c2b0 : decide (x8_1 < (l0.length : Int)) = true := decide_eq_true c2
     clear c2
     by_cases c3 : 0 ≤ x8_1
     ·
      rw [if_pos c3] at H
      have c3b0 : decide (0 ≤ x8_1) = true := decide_eq_true c3
      clear c3
      by_cases c4 : x8_1 < (l0.length : Int)
      ·
       rw [if_pos c4] at H
       have c4b0 : decide (x8_1 < (l0.length : Int)) = true := decide_eq_true c4
       clear c4
       have H' := Aside0.mk H
       clear H
       have p357 : 0 ≤ (x8_1 : Int) := od_
       have q357 : x8_1 < (l0.length : Int) := od_
       obtain ⟨ad357, e357, hx357_0⟩ := Kd.at_int HR0.out x8_1 p357 q357
       cases e357
       replace p357 := eq_true p357
       replace q357 := eq_true q357
       go_wp2
       go_roundg k1
       case measure => have := HK1.out; omega
       case rel => exact ⟨(Int.tmod (wrap64 ((wrap64 (x3_1 * 31)) + (wrap64 (rd l0 x8_1)))) 65521), (wrap64 (x8_1 + 1)), vl_, vl_, H', ⟨by have := HK1.out; omega⟩, dr_⟩
      · rw [if_neg c4] at H
        exact absurd H (by simp)
     · rw [if_neg c3] at H
       exact absurd H (by simp)
    ·
     rw [if_neg c2] at H
     have c2b0 : decide (x8_1 < (l0.length : Int)) = false := decide_eq_false c2
     clear c2
     obtain rfl := Option.some.inj H
     go_wp2
     go_ret
     exact ⟨vl_, dr_⟩

end Go.Proofs.Ytehdbobpbcjmeaa.PFnExactReadJournal

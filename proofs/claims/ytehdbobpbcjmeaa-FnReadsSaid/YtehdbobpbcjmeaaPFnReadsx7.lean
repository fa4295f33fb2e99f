/- Functions of the program as Lean functions, each with the proof that its call comes to what that function says (texts written by a program of this session). Conditions: those that stand in each theorem. -/
import Derived.Test.YtehdbobpbcjmeaaVFnReadsZ
import Derived.Test.YtehdbobpbcjmeaaPFnReadsx0
import Derived.Test.YtehdbobpbcjmeaaPFnReadsx5
import Derived.Test.YtehdbobpbcjmeaaPFnReadsx6
namespace Go.Proofs.Ytehdbobpbcjmeaa.PFnReads
open Go.RowKit Go.Proofs.YtehdbobpbcjmeaaW.PrintWords Go.Proofs.YtehdbobpbcjmeaaW.PrintLast Go.Proofs.YtehdbobpbcjmeaaW.PrintMore
attribute [local go_sem] max2_int min2_int max_two min_two max_three min_three max_four min_four   -- for this text's walks alone
set_option linter.unusedVariables false
set_option linter.unusedSimpArgs false

/-! ### impl_OpFault: function 44 -/
mutual
def impl_OpFault.j0 : Nat → Bool → Int → ByteArray → ByteArray → List Int → Int → Int → Int → List Int → Option (Int)
 | 0, _, _, _, _, _, _, _, _, _ => none
 | k + 1, x3, x308000, x308001, x308002, x308003, x308004, x308005, x308006, x308007 => if x3 = true then (some 1) else ((impl_isName.f k x308001).bind fun t310 => (if t310 = true then ((impl_Op_hasTo.f x308000 x308001 x308002 x308003 x308004 x308005 x308006 x308007).bind fun t311 => (if t311 = true then ((impl_isName.f k x308002).bind fun t312 => (impl_OpFault.j1 k (!t312) x308000 x308001 x308002 x308003 x308004 x308005 x308006 x308007)) else (impl_OpFault.j1 k false x308000 x308001 x308002 x308003 x308004 x308005 x308006 x308007))) else (impl_OpFault.j1 k true x308000 x308001 x308002 x308003 x308004 x308005 x308006 x308007)))
def impl_OpFault.j1 : Nat → Bool → Int → ByteArray → ByteArray → List Int → Int → Int → Int → List Int → Option (Int)
 | 0, _, _, _, _, _, _, _, _, _ => none
 | k + 1, x13, x308000, x308001, x308002, x308003, x308004, x308005, x308006, x308007 => if x13 = true then (some 5) else (if (x308003.length : Int) > 6 then (some 2) else ((impl_areUids.f k x308003).bind fun t313 => (if t313 = true then (if x308000 = 4 then ((impl_within.f x308004 1 3).bind fun t314 => (if t314 = true then ((impl_areFlags.f x308005).bind fun t315 => (if t315 = true then ((impl_isDate.f x308006).bind fun t316 => (impl_OpFault.j2 k (!t316) x308000 x308001 x308002 x308003 x308004 x308005 x308006 x308007)) else (impl_OpFault.j2 k true x308000 x308001 x308002 x308003 x308004 x308005 x308006 x308007))) else (impl_OpFault.j2 k true x308000 x308001 x308002 x308003 x308004 x308005 x308006 x308007))) else ((impl_areFlags.f x308005).bind fun t317 => (if t317 = true then ((impl_isDate.f x308006).bind fun t318 => (impl_OpFault.j2 k (!t318) x308000 x308001 x308002 x308003 x308004 x308005 x308006 x308007)) else (impl_OpFault.j2 k true x308000 x308001 x308002 x308003 x308004 x308005 x308006 x308007)))) else (impl_OpFault.j2 k true x308000 x308001 x308002 x308003 x308004 x308005 x308006 x308007))))
def impl_OpFault.j2 : Nat → Bool → Int → ByteArray → ByteArray → List Int → Int → Int → Int → List Int → Option (Int)
 | 0, _, _, _, _, _, _, _, _, _ => none
 | k + 1, x33, x308000, x308001, x308002, x308003, x308004, x308005, x308006, x308007 => if x33 = true then (some 3) else (if (x308007.length : Int) > 400 then (some 2) else (some 0))
end
def impl_OpFault.f (k : Nat) (a0_0 : Int) (a0_1 : ByteArray) (a0_2 : ByteArray) (l0_3 : List Int) (a0_4 : Int) (a0_5 : Int) (a0_6 : Int) (l0_7 : List Int) : Option (Int) := (impl_within.f a0_0 1 7).bind fun t308 => (if t308 = true then ((impl_Op_isOnly.f a0_0 a0_1 a0_2 l0_3 a0_4 a0_5 a0_6 l0_7).bind fun t309 => (impl_OpFault.j0 k (!t309) a0_0 a0_1 a0_2 l0_3 a0_4 a0_5 a0_6 l0_7)) else (impl_OpFault.j0 k true a0_0 a0_1 a0_2 l0_3 a0_4 a0_5 a0_6 l0_7))
set_option maxHeartbeats 8000000 in
set_option maxRecDepth 100000 in
theorem impl_OpFault.calls (k : Nat) (a0_0 : Int) (a0_1 : ByteArray) (a0_2 : ByteArray) (A0_3 : Option Addr) (c0_3 : Nat) (l0_3 : List Int) (a0_4 : Int) (a0_5 : Int) (a0_6 : Int) (A0_7 : Option Addr) (c0_7 : Nat) (l0_7 : List Int) (r : Int) (w : World) (hr0_3 : Kd.C (Kd.int .i64) w A0_3 l0_3.length l0_3) (hc0_3 : l0_3.length ≤ c0_3) (hr0_7 : Kd.C (Kd.int .u8) w A0_7 l0_7.length l0_7) (hc0_7 : l0_7.length ≤ c0_7) (h : impl_OpFault.f k a0_0 a0_1 a0_2 l0_3 a0_4 a0_5 a0_6 l0_7 = some r) :
 Calls Try.prog 44 #[.agg #[.int .i64 a0_0, .string a0_1, .string a0_2, .slice A0_3 l0_3.length c0_3, .int .i64 a0_4, .int .i64 a0_5, .int .i64 a0_6, .slice A0_7 l0_7.length c0_7]] w fun e w' => e = .returned (.int .i64 r) ∧ Below w.heap.size w w' := by
 have hu37 := Try.underlying37; have HR0_3 := Aside0.mk hr0_3; have HC0_3 := Aside0.mk hc0_3; clear hr0_3 hc0_3; have HR0_7 := Aside0.mk hr0_7; have HC0_7 := Aside0.mk hc0_7; clear hr0_7 hc0_7; have HB := Aside0.mk (Below.refl w.heap.size w); have H := h; unfold impl_OpFault.f at H; clear h; have HC2 := Aside0.mk H; clear H
 go_enter Try.func44, Try.ntmps44
 go_upto_region 1 with (first | ((with_reducible refine gate_dst (N := 1) rfl ?_); refine box_event ?hg (N := 1) ?hd (cs := #[.int .i64 a0_0, .string a0_1, .string a0_2, .slice A0_3 l0_3.length c0_3, .int .i64 a0_4, .int .i64 a0_5, .int .i64 a0_6, .slice A0_7 l0_7.length c0_7]) (t := 37) ?hr ?_; (case hd => rfl); (case hg => rfl); (case hr => first | (go_simp; done) | (go_simp; rfl)); intro gb307 hg w3 hbox hb; have BK307 := Aside0.mk hbox; have GW307 := gu_ hg HB; have GE307 := gu_ hg HB; replace HB := bs_ HB hb; clear hb hbox hg))
 (try simp only [Act.put, List.setIfInBounds_toArray, List.set_cons_zero, List.set_cons_succ])
 go_cut [3] (fun v3 wc => ∃ (kq : Nat) (x3_1 : Bool), v3 = .bool x3_1 ∧ Aside0 (impl_OpFault.j0 kq x3_1 a0_0 a0_1 a0_2 l0_3 a0_4 a0_5 a0_6 l0_7 = some r) ∧ Aside0 (kq ≤ k) ∧ Aside0 (wc.heap[gb307]? = some (.cells #[.int .i64 a0_0, .string a0_1, .string a0_2, (.slice A0_3 l0_3.length c0_3), .int .i64 a0_4, .int .i64 a0_5, .int .i64 a0_6, (.slice A0_7 l0_7.length c0_7)] 37 (0, 0))) ∧ Aside0 (Below w.heap.size w wc))
 case first =>
  have H := HC2.out; clear HC2; obtain ⟨t308, A4, H⟩ := bd_ H; (try dsimp only at H)
  by_cases c5 : t308 = true
  ·
   subst c5; (try rw [if_pos rfl] at H); obtain ⟨t309, A6, H⟩ := bd_ H; (try dsimp only at H); have H' := Aside0.mk H; clear H; obtain ⟨_, _, _, _, _, _, _, _⟩ := blk_cells8 BK307.out; obtain ⟨_, _, _, _, _, _, _, _⟩ := blk_frozen8 BK307.out
   go_wp2_with (first | ((with_reducible refine gate_callee (f := 76) rfl ?_); refine goesY_ (some 6) Try.func76 #[.int .i64 a0_0, .int .i64 1, .int .i64 7] rfl ?_; (with_reducible refine (impl_within.calls a0_0 1 7 true _ A4.out).mono ?_); rintro e w' ⟨rfl, ⟨nd, rfl⟩⟩; refine ⟨_, rfl, ?_⟩) | (go_at_call 77; (with_reducible refine (impl_Op_isOnly.calls a0_0 a0_1 a0_2 _ _ l0_3 a0_4 a0_5 a0_6 _ _ l0_7 t309 _ ?_ ?_ ?_ ?_ A6.out).mono ?_); exact Kd.C_below HR0_3.out (HB_up HB.out); exact HC0_3.out; exact Kd.C_below HR0_7.out (HB_up HB.out); exact HC0_7.out; rintro e w8 ⟨rfl, hb⟩; replace BK307 := bb_ BK307 hb; replace HB := bs_ HB hb; (try clear hb)))
   go_meet
   case rel => exact ⟨_, (!t309), vl_, H', ⟨le_⟩, ⟨blk_up BK307.out⟩, ⟨hs_⟩⟩
  ·
   replace c5 := Bool.eq_false_iff.mpr c5; subst c5; (try rw [if_neg (show ¬ (false = true) by decide)] at H); have H' := Aside0.mk H; clear H; obtain ⟨_, _, _, _, _, _, _, _⟩ := blk_cells8 BK307.out; obtain ⟨_, _, _, _, _, _, _, _⟩ := blk_frozen8 BK307.out
   go_wp2_with (first | ((with_reducible refine gate_callee (f := 76) rfl ?_); refine goesY_ (some 6) Try.func76 #[.int .i64 a0_0, .int .i64 1, .int .i64 7] rfl ?_; (with_reducible refine (impl_within.calls a0_0 1 7 false _ A4.out).mono ?_); rintro e w' ⟨rfl, ⟨nd, rfl⟩⟩; refine ⟨_, rfl, ?_⟩))
   go_meet
   case rel => exact ⟨_, (true), vl_, H', ⟨le_⟩, ⟨blk_up BK307.out⟩, ⟨hs_⟩⟩
 case rest =>
  clear HC2; obtain ⟨kq, x3_1, rfl, HA, HJ1, BK307, HB⟩ := hcut
  cases kq with
  | zero => exact absurd HA.out (by simp [impl_OpFault.j0])
  | succ kj1 =>
    have H := HA.out; clear HA; simp only [impl_OpFault.j0] at H
    by_cases c10 : x3_1 = true
    ·
     subst c10; (try rw [if_pos rfl] at H); obtain rfl := Option.some.inj H
     go_wp2
     go_ret
     exact ⟨ve_, hs_⟩
    ·
     replace c10 := Bool.eq_false_iff.mpr c10; subst c10; (try rw [if_neg (show ¬ (false = true) by decide)] at H); have HC11 := Aside0.mk H; clear H
     go_upto_region 3 with (fail)
     (try simp only [Act.put, List.setIfInBounds_toArray, List.set_cons_zero, List.set_cons_succ])
     go_cut [13] (fun v13 wc => ∃ (kq : Nat) (x13_10 : Bool), v13 = .bool x13_10 ∧ Aside0 (impl_OpFault.j1 kq x13_10 a0_0 a0_1 a0_2 l0_3 a0_4 a0_5 a0_6 l0_7 = some r) ∧ Aside0 (kq ≤ kj1) ∧ Aside0 (wc.heap[gb307]? = some (.cells #[.int .i64 a0_0, .string a0_1, .string a0_2, (.slice A0_3 l0_3.length c0_3), .int .i64 a0_4, .int .i64 a0_5, .int .i64 a0_6, (.slice A0_7 l0_7.length c0_7)] 37 (0, 0))) ∧ Aside0 (Below w.heap.size w wc))
     case first =>
      have H := HC11.out; clear HC11; obtain ⟨t310, A12, H⟩ := bd_ H; (try dsimp only at H)
      by_cases c13 : t310 = true
      ·
       subst c13; (try rw [if_pos rfl] at H); obtain ⟨t311, A14, H⟩ := bd_ H; (try dsimp only at H)
       by_cases c15 : t311 = true
       ·
        subst c15; (try rw [if_pos rfl] at H); obtain ⟨t312, A16, H⟩ := bd_ H; (try dsimp only at H); have H' := Aside0.mk H; clear H; obtain ⟨_, _, _, _, _, _, _, _⟩ := blk_cells8 BK307.out; obtain ⟨_, _, _, _, _, _, _, _⟩ := blk_frozen8 BK307.out
        go_wp2_with (first | ((with_reducible refine gate_callee (f := 78) rfl ?_); refine goesY_ (some 16) Try.func78 #[.string a0_1] rfl ?_; (with_reducible refine (impl_isName.calls kj1 a0_1 true _ A12.out).mono ?_); rintro e w' ⟨rfl, ⟨nd, rfl⟩⟩; refine ⟨_, rfl, ?_⟩) | (go_at_call 79; (with_reducible refine (impl_Op_hasTo.calls a0_0 a0_1 a0_2 _ _ l0_3 a0_4 a0_5 a0_6 _ _ l0_7 true _ ?_ ?_ ?_ ?_ A14.out).mono ?_); exact Kd.C_below HR0_3.out (HB_up HB.out); exact HC0_3.out; exact Kd.C_below HR0_7.out (HB_up HB.out); exact HC0_7.out; rintro e w18 ⟨rfl, hb⟩; replace BK307 := bb_ BK307 hb; replace HB := bs_ HB hb; (try clear hb); obtain ⟨_, _, _, _, _, _, _, _⟩ := blk_cells8 BK307.out; obtain ⟨_, _, _, _, _, _, _, _⟩ := blk_frozen8 BK307.out) | (go_at_call 78; (with_reducible refine (impl_isName.calls kj1 a0_2 t312 _ A16.out).mono ?_); rintro e w' ⟨rfl, ⟨nd, rfl⟩⟩))
        go_meet
        case rel => exact ⟨_, (!t312), vl_, H', ⟨by have := HJ1.out; first | omega | exact Nat.le_refl _⟩, ⟨blk_up BK307.out⟩, ⟨hs_⟩⟩
       ·
        replace c15 := Bool.eq_false_iff.mpr c15; subst c15; (try rw [if_neg (show ¬ (false = true) by decide)] at H); have H' := Aside0.mk H; clear H; obtain ⟨_, _, _, _, _, _, _, _⟩ := blk_cells8 BK307.out; obtain ⟨_, _, _, _, _, _, _, _⟩ := blk_frozen8 BK307.out
        go_wp2_with (first | ((with_reducible refine gate_callee (f := 78) rfl ?_); refine goesY_ (some 16) Try.func78 #[.string a0_1] rfl ?_; (with_reducible refine (impl_isName.calls kj1 a0_1 true _ A12.out).mono ?_); rintro e w' ⟨rfl, ⟨nd, rfl⟩⟩; refine ⟨_, rfl, ?_⟩) | (go_at_call 79; (with_reducible refine (impl_Op_hasTo.calls a0_0 a0_1 a0_2 _ _ l0_3 a0_4 a0_5 a0_6 _ _ l0_7 false _ ?_ ?_ ?_ ?_ A14.out).mono ?_); exact Kd.C_below HR0_3.out (HB_up HB.out); exact HC0_3.out; exact Kd.C_below HR0_7.out (HB_up HB.out); exact HC0_7.out; rintro e w21 ⟨rfl, hb⟩; replace BK307 := bb_ BK307 hb; replace HB := bs_ HB hb; (try clear hb)))
        go_meet
        case rel => exact ⟨_, (false), vl_, H', ⟨by have := HJ1.out; first | omega | exact Nat.le_refl _⟩, ⟨blk_up BK307.out⟩, ⟨hs_⟩⟩
      ·
       replace c13 := Bool.eq_false_iff.mpr c13; subst c13; (try rw [if_neg (show ¬ (false = true) by decide)] at H); have H' := Aside0.mk H; clear H; obtain ⟨_, _, _, _, _, _, _, _⟩ := blk_cells8 BK307.out; obtain ⟨_, _, _, _, _, _, _, _⟩ := blk_frozen8 BK307.out
       go_wp2_with (first | ((with_reducible refine gate_callee (f := 78) rfl ?_); refine goesY_ (some 16) Try.func78 #[.string a0_1] rfl ?_; (with_reducible refine (impl_isName.calls kj1 a0_1 false _ A12.out).mono ?_); rintro e w' ⟨rfl, ⟨nd, rfl⟩⟩; refine ⟨_, rfl, ?_⟩))
       go_meet
       case rel => exact ⟨_, (true), vl_, H', ⟨by have := HJ1.out; first | omega | exact Nat.le_refl _⟩, ⟨blk_up BK307.out⟩, ⟨hs_⟩⟩
     case rest =>
      clear HC11; (try clear c10); obtain ⟨kq, x13_10, rfl, HA, HJ10, BK307, HB⟩ := hcut
      cases kq with
      | zero => exact absurd HA.out (by simp [impl_OpFault.j1])
      | succ kj10 =>
        have H := HA.out; clear HA; simp only [impl_OpFault.j1] at H
        by_cases c23 : x13_10 = true
        ·
         subst c23; (try rw [if_pos rfl] at H); obtain rfl := Option.some.inj H
         go_wp2
         go_ret
         exact ⟨ve_, hs_⟩
        ·
         replace c23 := Bool.eq_false_iff.mpr c23; subst c23; (try rw [if_neg (show ¬ (false = true) by decide)] at H)
         by_cases c24 : (l0_3.length : Int) > 6
         ·
          rw [if_pos c24] at H; have c24b0 : decide (6 < (l0_3.length : Int)) = true := decide_eq_true c24; have c24b1 : decide (6 < l0_3.length) = true := decide_eq_true (by omega); clear c24; obtain rfl := Option.some.inj H; obtain ⟨_, _, _, _, _, _, _, _⟩ := blk_cells8 BK307.out; obtain ⟨_, _, _, _, _, _, _, _⟩ := blk_frozen8 BK307.out
          go_wp2
          go_ret
          exact ⟨ve_, hs_⟩
         ·
          rw [if_neg c24] at H; have c24b0 : decide (6 < (l0_3.length : Int)) = false := decide_eq_false c24; have c24b1 : decide (6 < l0_3.length) = false := decide_eq_false (by omega); clear c24; have HC26 := Aside0.mk H; clear H; obtain ⟨hcz27_0, hcz27_1, hcz27_2, hcz27_3, hcz27_4, hcz27_5, hcz27_6, hcz27_7⟩ := blk_cells8 BK307.out; obtain ⟨hfz27_0, hfz27_1, hfz27_2, hfz27_3, hfz27_4, hfz27_5, hfz27_6, hfz27_7⟩ := blk_frozen8 BK307.out
          go_upto_region 7 with (fail)
          (try simp only [Act.put, List.setIfInBounds_toArray, List.set_cons_zero, List.set_cons_succ])
          go_cut [33] (fun v33 wc => ∃ (kq : Nat) (x33_25 : Bool), v33 = .bool x33_25 ∧ Aside0 (impl_OpFault.j2 kq x33_25 a0_0 a0_1 a0_2 l0_3 a0_4 a0_5 a0_6 l0_7 = some r) ∧ Aside0 (kq ≤ kj10) ∧ Aside0 (wc.heap[gb307]? = some (.cells #[.int .i64 a0_0, .string a0_1, .string a0_2, (.slice A0_3 l0_3.length c0_3), .int .i64 a0_4, .int .i64 a0_5, .int .i64 a0_6, (.slice A0_7 l0_7.length c0_7)] 37 (0, 0))) ∧ Aside0 (Below w.heap.size w wc))
          case first =>
           have H := HC26.out; clear HC26; obtain ⟨t313, A28, H⟩ := bd_ H; (try dsimp only at H)
           by_cases c29 : t313 = true
           ·
            subst c29; (try rw [if_pos rfl] at H)
            by_cases c30 : a0_0 = 4
            ·
             rw [if_pos c30] at H; have c30b0 : (a0_0 == 4) = true := beq_iff_eq.mpr c30; have c30b1 : (a0_0 != 4) = false := bne_eq_false_iff_eq.mpr c30; clear c30; (first | rw [c30b0] | (simp only [i64_w, i32_w]; rw [c30b0]) | skip); obtain ⟨t314, A31, H⟩ := bd_ H; (try dsimp only at H)
             by_cases c32 : t314 = true
             ·
              subst c32; (try rw [if_pos rfl] at H); obtain ⟨t315, A33, H⟩ := bd_ H; (try dsimp only at H)
              by_cases c34 : t315 = true
              ·
               subst c34; (try rw [if_pos rfl] at H); obtain ⟨t316, A35, H⟩ := bd_ H; (try dsimp only at H); have H' := Aside0.mk H; clear H; obtain ⟨_, _, _, _, _, _, _, _⟩ := blk_cells8 BK307.out; obtain ⟨_, _, _, _, _, _, _, _⟩ := blk_frozen8 BK307.out
               go_wp2_with (first | ((with_reducible refine gate_callee (f := 80) rfl ?_); refine goesY_ (some 36) Try.func80 #[.slice A0_3 l0_3.length c0_3] rfl ?_; (with_reducible refine (impl_areUids.calls kj10 _ _ l0_3 true _ ?_ ?_ A28.out).mono ?_); exact C_up (Kd.C_below HR0_3.out HB.out); exact HC0_3.out; rintro e w' ⟨rfl, ⟨nd, rfl⟩⟩; refine ⟨_, rfl, ?_⟩) | (go_at_call 76; (with_reducible refine (impl_within.calls a0_4 1 3 true _ A31.out).mono ?_); rintro e w' ⟨rfl, ⟨nd, rfl⟩⟩) | (go_at_call 81; (with_reducible refine (impl_areFlags.calls a0_5 true _ A33.out).mono ?_); rintro e w' ⟨rfl, ⟨nd, rfl⟩⟩) | (go_at_call 82; (with_reducible refine (impl_isDate.calls a0_6 t316 _ A35.out).mono ?_); rintro e w' ⟨rfl, ⟨nd, rfl⟩⟩))
               go_meet
               case rel => exact ⟨_, (!t316), vl_, H', ⟨by have := HJ1.out; have := HJ10.out; first | omega | exact Nat.le_refl _⟩, ⟨blk_up BK307.out⟩, ⟨hs_⟩⟩
              ·
               replace c34 := Bool.eq_false_iff.mpr c34; subst c34; (try rw [if_neg (show ¬ (false = true) by decide)] at H); have H' := Aside0.mk H; clear H; obtain ⟨_, _, _, _, _, _, _, _⟩ := blk_cells8 BK307.out; obtain ⟨_, _, _, _, _, _, _, _⟩ := blk_frozen8 BK307.out
               go_wp2_with (first | ((with_reducible refine gate_callee (f := 80) rfl ?_); refine goesY_ (some 36) Try.func80 #[.slice A0_3 l0_3.length c0_3] rfl ?_; (with_reducible refine (impl_areUids.calls kj10 _ _ l0_3 true _ ?_ ?_ A28.out).mono ?_); exact C_up (Kd.C_below HR0_3.out HB.out); exact HC0_3.out; rintro e w' ⟨rfl, ⟨nd, rfl⟩⟩; refine ⟨_, rfl, ?_⟩) | (go_at_call 76; (with_reducible refine (impl_within.calls a0_4 1 3 true _ A31.out).mono ?_); rintro e w' ⟨rfl, ⟨nd, rfl⟩⟩) | (go_at_call 81; (with_reducible refine (impl_areFlags.calls a0_5 false _ A33.out).mono ?_); rintro e w' ⟨rfl, ⟨nd, rfl⟩⟩))
               go_meet
               case rel => exact ⟨_, (true), vl_, H', ⟨by have := HJ1.out; have := HJ10.out; first | omega | exact Nat.le_refl _⟩, ⟨blk_up BK307.out⟩, ⟨hs_⟩⟩
             ·
              replace c32 := Bool.eq_false_iff.mpr c32; subst c32; (try rw [if_neg (show ¬ (false = true) by decide)] at H); have H' := Aside0.mk H; clear H; obtain ⟨_, _, _, _, _, _, _, _⟩ := blk_cells8 BK307.out; obtain ⟨_, _, _, _, _, _, _, _⟩ := blk_frozen8 BK307.out
              go_wp2_with (first | ((with_reducible refine gate_callee (f := 80) rfl ?_); refine goesY_ (some 36) Try.func80 #[.slice A0_3 l0_3.length c0_3] rfl ?_; (with_reducible refine (impl_areUids.calls kj10 _ _ l0_3 true _ ?_ ?_ A28.out).mono ?_); exact C_up (Kd.C_below HR0_3.out HB.out); exact HC0_3.out; rintro e w' ⟨rfl, ⟨nd, rfl⟩⟩; refine ⟨_, rfl, ?_⟩) | (go_at_call 76; (with_reducible refine (impl_within.calls a0_4 1 3 false _ A31.out).mono ?_); rintro e w' ⟨rfl, ⟨nd, rfl⟩⟩))
              go_meet
              case rel => exact ⟨_, (true), vl_, H', ⟨by have := HJ1.out; have := HJ10.out; first | omega | exact Nat.le_refl _⟩, ⟨blk_up BK307.out⟩, ⟨hs_⟩⟩
            ·
             rw [if_neg c30] at H; have c30b0 : (a0_0 == 4) = false := beq_eq_false_iff_ne.mpr c30; have c30b1 : (a0_0 != 4) = true := bne_iff_ne.mpr c30; (first | rw [c30b0] | (simp only [i64_w, i32_w]; rw [c30b0]) | skip); obtain ⟨t317, A39, H⟩ := bd_ H; (try dsimp only at H)
             by_cases c40 : t317 = true
             ·
              subst c40; (try rw [if_pos rfl] at H); obtain ⟨t318, A41, H⟩ := bd_ H; (try dsimp only at H); have H' := Aside0.mk H; clear H; obtain ⟨_, _, _, _, _, _, _, _⟩ := blk_cells8 BK307.out; obtain ⟨_, _, _, _, _, _, _, _⟩ := blk_frozen8 BK307.out
              go_wp2_with (first | ((with_reducible refine gate_callee (f := 80) rfl ?_); refine goesY_ (some 36) Try.func80 #[.slice A0_3 l0_3.length c0_3] rfl ?_; (with_reducible refine (impl_areUids.calls kj10 _ _ l0_3 true _ ?_ ?_ A28.out).mono ?_); exact C_up (Kd.C_below HR0_3.out HB.out); exact HC0_3.out; rintro e w' ⟨rfl, ⟨nd, rfl⟩⟩; refine ⟨_, rfl, ?_⟩) | (go_at_call 81; (with_reducible refine (impl_areFlags.calls a0_5 true _ A39.out).mono ?_); rintro e w' ⟨rfl, ⟨nd, rfl⟩⟩) | (go_at_call 82; (with_reducible refine (impl_isDate.calls a0_6 t318 _ A41.out).mono ?_); rintro e w' ⟨rfl, ⟨nd, rfl⟩⟩))
              go_meet
              case rel => exact ⟨_, (!t318), vl_, H', ⟨by have := HJ1.out; have := HJ10.out; first | omega | exact Nat.le_refl _⟩, ⟨blk_up BK307.out⟩, ⟨hs_⟩⟩
             ·
              replace c40 := Bool.eq_false_iff.mpr c40; subst c40; (try rw [if_neg (show ¬ (false = true) by decide)] at H); have H' := Aside0.mk H; clear H; obtain ⟨_, _, _, _, _, _, _, _⟩ := blk_cells8 BK307.out; obtain ⟨_, _, _, _, _, _, _, _⟩ := blk_frozen8 BK307.out
              go_wp2_with (first | ((with_reducible refine gate_callee (f := 80) rfl ?_); refine goesY_ (some 36) Try.func80 #[.slice A0_3 l0_3.length c0_3] rfl ?_; (with_reducible refine (impl_areUids.calls kj10 _ _ l0_3 true _ ?_ ?_ A28.out).mono ?_); exact C_up (Kd.C_below HR0_3.out HB.out); exact HC0_3.out; rintro e w' ⟨rfl, ⟨nd, rfl⟩⟩; refine ⟨_, rfl, ?_⟩) | (go_at_call 81; (with_reducible refine (impl_areFlags.calls a0_5 false _ A39.out).mono ?_); rintro e w' ⟨rfl, ⟨nd, rfl⟩⟩))
              go_meet
              case rel => exact ⟨_, (true), vl_, H', ⟨by have := HJ1.out; have := HJ10.out; first | omega | exact Nat.le_refl _⟩, ⟨blk_up BK307.out⟩, ⟨hs_⟩⟩
           ·
            replace c29 := Bool.eq_false_iff.mpr c29; subst c29; (try rw [if_neg (show ¬ (false = true) by decide)] at H); have H' := Aside0.mk H; clear H; obtain ⟨_, _, _, _, _, _, _, _⟩ := blk_cells8 BK307.out; obtain ⟨_, _, _, _, _, _, _, _⟩ := blk_frozen8 BK307.out
            go_wp2_with (first | ((with_reducible refine gate_callee (f := 80) rfl ?_); refine goesY_ (some 36) Try.func80 #[.slice A0_3 l0_3.length c0_3] rfl ?_; (with_reducible refine (impl_areUids.calls kj10 _ _ l0_3 false _ ?_ ?_ A28.out).mono ?_); exact C_up (Kd.C_below HR0_3.out HB.out); exact HC0_3.out; rintro e w' ⟨rfl, ⟨nd, rfl⟩⟩; refine ⟨_, rfl, ?_⟩))
            go_meet
            case rel => exact ⟨_, (true), vl_, H', ⟨by have := HJ1.out; have := HJ10.out; first | omega | exact Nat.le_refl _⟩, ⟨blk_up BK307.out⟩, ⟨hs_⟩⟩
          case rest =>
           clear HC26; (try clear c10); (try clear c23); (try clear c24); (try clear c24b0); (try clear c24b1); (try clear hcz27_0); (try clear hcz27_1); (try clear hcz27_2); (try clear hcz27_3); (try clear hcz27_4); (try clear hcz27_5); (try clear hcz27_6); (try clear hcz27_7); (try clear hfz27_0); (try clear hfz27_1); (try clear hfz27_2); (try clear hfz27_3); (try clear hfz27_4); (try clear hfz27_5); (try clear hfz27_6); (try clear hfz27_7); obtain ⟨kq, x33_25, rfl, HA, HJ25, BK307, HB⟩ := hcut
           cases kq with
           | zero => exact absurd HA.out (by simp [impl_OpFault.j2])
           | succ kj25 =>
             have H := HA.out; clear HA; simp only [impl_OpFault.j2] at H
             by_cases c45 : x33_25 = true
             ·
              subst c45; (try rw [if_pos rfl] at H); obtain rfl := Option.some.inj H
              go_wp2
              go_ret
              exact ⟨ve_, hs_⟩
             ·
              replace c45 := Bool.eq_false_iff.mpr c45; subst c45; (try rw [if_neg (show ¬ (false = true) by decide)] at H)
              by_cases c46 : (l0_7.length : Int) > 400
              ·
               rw [if_pos c46] at H; have c46b0 : decide (400 < (l0_7.length : Int)) = true := decide_eq_true c46; have c46b1 : decide (400 < l0_7.length) = true := decide_eq_true (by omega); clear c46; obtain rfl := Option.some.inj H; obtain ⟨_, _, _, _, _, _, _, _⟩ := blk_cells8 BK307.out; obtain ⟨_, _, _, _, _, _, _, _⟩ := blk_frozen8 BK307.out
               go_wp2
               go_ret
               exact ⟨ve_, hs_⟩
              ·
               rw [if_neg c46] at H; have c46b0 : decide (400 < (l0_7.length : Int)) = false := decide_eq_false c46; have c46b1 : decide (400 < l0_7.length) = false := decide_eq_false (by omega); clear c46; obtain rfl := Option.some.inj H; obtain ⟨_, _, _, _, _, _, _, _⟩ := blk_cells8 BK307.out; obtain ⟨_, _, _, _, _, _, _, _⟩ := blk_frozen8 BK307.out
               go_wp2
               go_ret
               exact ⟨ve_, hs_⟩

/-! ### impl_length_byte: function 88 -/
def impl_length_byte.f (l0 : List Int) : Option (Int) := some (l0.length : Int)
set_option maxHeartbeats 8000000 in
set_option maxRecDepth 100000 in
theorem impl_length_byte.calls (A0 : Option Addr) (c0 : Nat) (l0 : List Int) (r : Int) (w : World) (hr0 : Kd.C (Kd.int .u8) w A0 l0.length l0) (hc0 : l0.length ≤ c0) (h : impl_length_byte.f l0 = some r) :
 Calls Try.prog 88 #[.slice A0 l0.length c0] w fun e w' => e = .returned (.int .i64 r) ∧ Drawn0 w w' := by
 have HR0 := Aside0.mk hr0; have HC0 := Aside0.mk hc0; clear hr0 hc0; have H := h; unfold impl_length_byte.f at H; clear h; obtain rfl := Option.some.inj H
 go_enter Try.func88, Try.ntmps88
 go_wp2
 go_ret
 exact ⟨vl_, dr_⟩

/-! ### impl_two: function 96 -/
def impl_two.f (a0 : Int) : Option (List Int) := some (([(wrap64 (Int.tdiv a0 256)) % 256, (Int.tmod a0 256) % 256] : List Int))
set_option maxHeartbeats 8000000 in
set_option maxRecDepth 100000 in
theorem impl_two.calls (a0 : Int) (r : List Int) (w : World) (h : impl_two.f a0 = some r) :
 Calls Try.prog 96 #[.int .i64 a0] w fun e w' => ∃ v0_ : Value, e = .returned (v0_) ∧ Kd.R (Kd.int .u8) 5 w' w.heap.size (fun _ => True) v0_ r ∧ Below w.heap.size w w' := by
 have HB := Aside0.mk (Below.refl w.heap.size w); have H := h; unfold impl_two.f at H; clear h; generalize hy319 : (([(wrap64 (Int.tdiv a0 256)) % 256, (Int.tmod a0 256) % 256] : List Int)) = y319 at H; have Ny319 := Aside0.mk hy319.symm; clear hy319; obtain rfl := Option.some.inj H
 go_enter Try.func96, Try.ntmps96
 go_wp2_with (first | ((with_reducible refine gate_dst (N := 9) rfl ?_); refine Kd.R_lit (Kd.int .u8) _ 5 ?hg (N := 9) ?hd (xs := ([(wrap64 (Int.tdiv a0 256)) % 256, (Int.tmod a0 256) % 256] : List Int)) (inner := [.int .u8 ((wrap64 (Int.tdiv a0 256)) % 256), .int .u8 ((Int.tmod a0 256) % 256)]) (ok := fun _ => True) (okp := fun _ => True) ?hr ?hp (fun _ hk => hk) trivial (Below.refl _ _) (Nat.le_refl _) (by simp) ?_; (case hd => rfl); (case hg => rfl); (case hr => first | (go_simp; done) | (go_simp; rfl)); (case hp => exact (Reps.one (show Kd.M (Kd.int .u8) _ _ _ ((wrap64 (Int.tdiv a0 256)) % 256) [.int .u8 ((wrap64 (Int.tdiv a0 256)) % 256)] from rfl) (Reps.one (show Kd.M (Kd.int .u8) _ _ _ ((Int.tmod a0 256) % 256) [.int .u8 ((Int.tmod a0 256) % 256)] from rfl) (Reps.none _ _)))); intro v320 w2 ho3 hb hg_ hnew_; clear hg_ hnew_; (first | rw [← Ny319.out] at ho3 | (simp only [Int.reduceToNat] at ho3; rw [← Ny319.out] at ho3)); have HO321 := rl_ ho3 HB; replace HB := bs_ HB hb; clear hb ho3))
 go_ret
 exact ⟨_, ve_, R_up HO321.out, hb_⟩

/-! ### impl_sumOf: function 97 -/
def impl_sumOf.l0 : Nat → Int → List Int → Int → Int → Option (Int)
 | 0, _, _, _, _ => none
 | k + 1, x3, x6, x7, x8 => if x8 < x7 then (if 0 ≤ x8 then (if x8 < (x6.length : Int) then (impl_sumOf.l0 k (Int.tmod (wrap64 ((wrap64 (x3 * 31)) + (wrap64 (rd x6 x8)))) 65521) x6 x7 (wrap64 (x8 + 1))) else (none)) else (none)) else (some x3)
def impl_sumOf.f (k : Nat) (l0 : List Int) : Option (Int) := impl_sumOf.l0 k 1 l0 (l0.length : Int) 0
set_option maxHeartbeats 8000000 in
set_option maxRecDepth 100000 in
theorem impl_sumOf.calls (k : Nat) (A0 : Option Addr) (c0 : Nat) (l0 : List Int) (r : Int) (w : World) (hr0 : Kd.C (Kd.int .u8) w A0 l0.length l0) (hc0 : l0.length ≤ c0) (h : impl_sumOf.f k l0 = some r) :
 Calls Try.prog 97 #[.slice A0 l0.length c0] w fun e w' => e = .returned (.int .i64 r) ∧ Drawn0 w w' := by
 have HR0 := Aside0.mk hr0; have HC0 := Aside0.mk hc0; clear hr0 hc0; have H := h; unfold impl_sumOf.f at H; clear h; have H' := Aside0.mk H; clear H
 go_enter Try.func97, Try.ntmps97
 go_wp2
 go_loopg [3, 8] k (fun kq v3 v8 w' => ∃ (x3_1 : Int) (x8_1 : Int), v3 = .int .i64 x3_1 ∧ v8 = .int .i64 x8_1 ∧ Aside0 (impl_sumOf.l0 kq x3_1 l0 (l0.length : Int) x8_1 = some r) ∧ Aside0 (kq ≤ k) ∧ Drawn0 w w')
 case atStart => exact ⟨(1), (0), vl_, vl_, H', ⟨Nat.le_refl _⟩, dr_⟩
 case round =>
  clear H'; obtain ⟨x3_1, x8_1, rfl, rfl, HA, HK1, ⟨m1, rfl⟩⟩ := hrel
  cases gk with
  | zero => exact absurd HA.out (by simp [impl_sumOf.l0])
  | succ k1 =>
    have H := HA.out; clear HA; simp only [impl_sumOf.l0] at H
    by_cases c2 : x8_1 < (l0.length : Int)
    ·
     rw [if_pos c2] at H; have c2b0 : decide (x8_1 < (l0.length : Int)) = true := decide_eq_true c2; clear c2
     by_cases c3 : 0 ≤ x8_1
     ·
      rw [if_pos c3] at H; have c3b0 : decide (0 ≤ x8_1) = true := decide_eq_true c3; clear c3
      by_cases c4 : x8_1 < (l0.length : Int)
      ·
       rw [if_pos c4] at H; have c4b0 : decide (x8_1 < (l0.length : Int)) = true := decide_eq_true c4; clear c4; have H' := Aside0.mk H; clear H; have p322 : 0 ≤ (x8_1 : Int) := od_; have q322 : x8_1 < (l0.length : Int) := od_; obtain ⟨ad322, e322, hx322_0⟩ := Kd.at_int HR0.out x8_1 p322 q322
       cases e322
       replace p322 := eq_true p322; replace q322 := eq_true q322
       go_wp2
       go_roundg k1
       case measure => have := HK1.out; omega
       case rel => exact ⟨(Int.tmod (wrap64 ((wrap64 (x3_1 * 31)) + (wrap64 (rd l0 x8_1)))) 65521), (wrap64 (x8_1 + 1)), vl_, vl_, H', ⟨by have := HK1.out; omega⟩, dr_⟩
      · rw [if_neg c4] at H
        exact absurd H (by simp)
     · rw [if_neg c3] at H
       exact absurd H (by simp)
    ·
     rw [if_neg c2] at H; have c2b0 : decide (x8_1 < (l0.length : Int)) = false := decide_eq_false c2; clear c2; obtain rfl := Option.some.inj H
     go_wp2
     go_ret
     exact ⟨vl_, dr_⟩

end Go.Proofs.Ytehdbobpbcjmeaa.PFnReads

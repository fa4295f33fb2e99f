/- Functions of the program, each with what its call comes to. Conditions: each theorem's. -/
import Derived.Test.YtehdbobpbcjmeaaVFnJournalsZ
import Derived.Test.YtehdbobpbcjmeaaPFnJournalsx0
import Derived.Test.YtehdbobpbcjmeaaPFnJournalsx1
import Derived.Test.YtehdbobpbcjmeaaPFnJournalsx12
namespace Go.Proofs.Ytehdbobpbcjmeaa.PFnJournals
open Go.RowKit Go.Proofs.YtehdbobpbcjmeaaW.PrintWords Go.Proofs.YtehdbobpbcjmeaaW.PrintLast Go.Proofs.YtehdbobpbcjmeaaW.PrintMore
attribute [local go_sem] max2_int min2_int max_two min_two max_three min_three max_four min_four   -- for this text's walks alone
set_option linter.unusedVariables false
set_option linter.unusedSimpArgs false
set_option maxHeartbeats 8000000
set_option maxRecDepth 100000

/-! ### spec_l1Quoted: function 104 -/
mutual
def spec_l1Quoted.l0 : Nat → List Int → List Int → Int → Option (ByteArray)
 | 0, _, _, _ => none
 | k + 1, x0, x3, x4 => if x4 < (x0.length : Int) then (if 0 ≤ x4 then (if (rd x0 x4) = 32 then (if (wrap64 (x4 + 1)) < (x0.length : Int) then (if 0 ≤ (wrap64 (x4 + 1)) then (spec_l1Quoted.j1 k x0 x3 x4 (rd x0 x4) ((rd x0 (wrap64 (x4 + 1))) != 10)) else (none)) else (spec_l1Quoted.j1 k x0 x3 x4 (rd x0 x4) false)) else (if (rd x0 x4) = 9 then (if (wrap64 (x4 + 1)) < (x0.length : Int) then (if 0 ≤ (wrap64 (x4 + 1)) then (spec_l1Quoted.j1 k x0 x3 x4 (rd x0 x4) ((rd x0 (wrap64 (x4 + 1))) != 10)) else (none)) else (spec_l1Quoted.j1 k x0 x3 x4 (rd x0 x4) false)) else (spec_l1Quoted.j1 k x0 x3 x4 (rd x0 x4) false))) else (none)) else (some (strOfNums x3))
def spec_l1Quoted.j1 : Nat → List Int → List Int → Int → Int → Bool → Option (ByteArray)
 | 0, _, _, _, _, _ => none
 | k + 1, x0, x3, x4, x5, x6 => if x5 ≥ 33 then (if x5 ≤ 126 then (if x5 = 61 then (if x5 = 10 then (spec_l1Quoted.j2 k x0 x3 x4 x5 true) else (spec_l1Quoted.j2 k x0 x3 x4 x5 x6)) else (spec_l1Quoted.j2 k x0 x3 x4 x5 true)) else (if x5 = 10 then (spec_l1Quoted.j2 k x0 x3 x4 x5 true) else (spec_l1Quoted.j2 k x0 x3 x4 x5 x6))) else (if x5 = 10 then (spec_l1Quoted.j2 k x0 x3 x4 x5 true) else (spec_l1Quoted.j2 k x0 x3 x4 x5 x6))
def spec_l1Quoted.j2 : Nat → List Int → List Int → Int → Int → Bool → Option (ByteArray)
 | 0, _, _, _, _, _ => none
 | k + 1, x0, x3, x4, x5, x55 => if x55 = true then (if x3.length < 140737488355328 then (spec_l1Quoted.l0 k x0 (x3 ++ [x5]) (wrap64 (x4 + 1))) else (none)) else ((spec_l1Hex.f ((Int.tdiv x5 16) % 256)).bind fun t619 => ((spec_l1Hex.f (Int.tmod x5 16)).bind fun t620 => ((some (([61, t619, t620] : List Int) : List Int)).bind fun y621 => (if x3.length + y621.length < 140737488355328 then (spec_l1Quoted.l0 k x0 (x3 ++ y621) (wrap64 (x4 + 1))) else (none)))))
end
def spec_l1Quoted.f (k : Nat) (l0 : List Int) : Option (ByteArray) := spec_l1Quoted.l0 k l0 (([] : List Int)) 0
theorem spec_l1Quoted.calls (k : Nat) (A0 : Option Addr) (c0 : Nat) (l0 : List Int) (r : ByteArray) (w : World) (hr0 : Kd.C (Kd.int .u8) w A0 l0.length l0) (hc0 : l0.length ≤ c0) (h : spec_l1Quoted.f k l0 = some r) :
 Calls Try.prog 104 #[.slice A0 l0.length c0] w fun e w' => e = .returned (.string r) ∧ Below w.heap.size w w' := by
 have HR0 := Aside0.mk hr0; have HC0 := Aside0.mk hc0; clear hr0 hc0; have HB := Aside0.mk (Below.refl w.heap.size w); have H := h; unfold spec_l1Quoted.f at H; clear h; generalize hy610 : (([] : List Int)) = y610 at H; have Ny610 := Aside0.mk hy610.symm; clear hy610; have H' := Aside0.mk H; clear H
 go_enter Try.func104, Try.ntmps104
 go_wp2_with (first | ((with_reducible refine gate_dst (N := 7) rfl ?_); (try (refine gate_guard (by rfl) ?_; dsimp only)); refine Kd.R_lit (Kd.int .u8) _ 5 ?hg (N := 7) ?hd (xs := ([] : List Int)) (inner := []) (ok := fun _ => True) (okp := fun _ => True) ?hr ?hp (fun _ hk => hk) trivial (Below.refl _ _) (Nat.le_refl _) (by simp) ?_; (case hd => rfl); (case hg => rfl); (case hr => first | (go_simp; done) | (go_simp; rfl)); (case hp => exact (Reps.none _ _)); intro v611 w2 ho3 hb hg_ hnew_; clear hg_ hnew_; (first | rw [← Ny610.out] at ho3 | (simp only [Int.reduceToNat] at ho3; rw [← Ny610.out] at ho3)); have HO612 := rl_ ho3 HB; replace HB := bs_ HB hb; clear hb ho3))
 go_loopg [3, 4] k (fun kq v3 v4 w' => ∃ (x3_1 : List Int) (x4_1 : Int), v4 = .int .i64 x4_1 ∧ Aside0 (spec_l1Quoted.l0 kq l0 x3_1 x4_1 = some r) ∧ Aside0 (kq ≤ k) ∧ Aside0 (Kd.R (Kd.int .u8) 5 w' w.heap.size (fun _ => True) v3 x3_1) ∧ Aside0 (Below w.heap.size w w'))
 case atStart => exact ⟨(y610), (0), vl_, H', ⟨Nat.le_refl _⟩, ⟨R_up HO612.out⟩, ⟨hb_⟩⟩
 case round =>
  clear H'; obtain ⟨x3_1, x4_1, rfl, HA, HK1, HO_3, HB⟩ := hrel
  cases gk with
  | zero => exact absurd HA.out (by simp [spec_l1Quoted.l0])
  | succ k1 =>
    have H := HA.out; clear HA; simp only [spec_l1Quoted.l0] at H
    by_cases c4 : x4_1 < (l0.length : Int)
    ·
     rw [if_pos c4] at H; have c4b0 : decide (x4_1 < (l0.length : Int)) = true := decide_eq_true c4; clear c4; obtain ⟨c5, H⟩ := ifc_ H; have c5b0 : decide (0 ≤ x4_1) = true := decide_eq_true c5; clear c5; have HC6 := Aside0.mk H; clear H; have p613 : 0 ≤ (x4_1 : Int) := od_; have q613 : x4_1 < (l0.length : Int) := od_; obtain ⟨ad613, e613, hx613_0⟩ := Kd.at_int HR0.out x4_1 p613 q613
     cases e613
     replace hx613_0 := ck_ HB.out hx613_0; replace p613 := eq_true p613; replace q613 := eq_true q613
     go_upto_region 6 with (fail)
     (try simp only [Act.put, List.setIfInBounds_toArray, List.set_cons_zero, List.set_cons_succ])
     go_cut [6] (fun v6 wc => ∃ (kq : Nat) (x6_5 : Bool), v6 = .bool x6_5 ∧ Aside0 (spec_l1Quoted.j1 kq l0 x3_1 x4_1 (rd l0 x4_1) x6_5 = some r) ∧ Aside0 (kq ≤ k1) ∧ Aside0 (Kd.R (Kd.int .u8) 5 wc w.heap.size (fun _ => True) u3 x3_1) ∧ Aside0 (Below w.heap.size w wc))
     case first =>
      have H := HC6.out; clear HC6
      by_cases c7 : (rd l0 x4_1) = 32
      ·
       rw [if_pos c7] at H; have c7b0 : ((rd l0 x4_1) == 32) = true := beq_iff_eq.mpr c7; have c7b1 : ((rd l0 x4_1) != 32) = false := bne_eq_false_iff_eq.mpr c7; clear c7; (first | rw [c7b0] | (simp only [i64_w, i32_w]; rw [c7b0]) | skip)
       by_cases c8 : (wrap64 (x4_1 + 1)) < (l0.length : Int)
       ·
        rw [if_pos c8] at H; have c8b0 : decide ((wrap64 (x4_1 + 1)) < (l0.length : Int)) = true := decide_eq_true c8; clear c8; obtain ⟨ji9, hji9⟩ : ∃ j_ : Int, (wrap64 (x4_1 + 1)) = j_ := ⟨_, rfl⟩
        replace H : (if 0 ≤ (ji9) then (spec_l1Quoted.j1 k1 l0 x3_1 x4_1 (rd l0 x4_1) ((rd l0 (ji9)) != 10)) else (none)) = some r := by first | (rw [hji9] at H; exact H) | (simp only [hji9] at H ⊢; exact H)
        (try rw [hji9] at c8b0); have hji9w : (IntKind.i64.wrap (x4_1 + 1)) = ji9 := (i64_w _).trans hji9; obtain ⟨c10, H⟩ := ifc_ H; have c10b0 : decide (0 ≤ (ji9)) = true := decide_eq_true c10; clear c10; have H' := Aside0.mk H; clear H; have p614 : 0 ≤ ((ji9) : Int) := od_; have q614 : (ji9) < (l0.length : Int) := od_; obtain ⟨ad614, e614, hx614_0⟩ := Kd.at_int HR0.out (ji9) p614 q614; obtain rfl : ad613 = ad614 := (by injection e614); replace hx614_0 := ck_ HB.out hx614_0; replace p614 := eq_true p614; replace q614 := eq_true q614
        go_wp2
        go_meet
        case rel => exact ⟨_, (((rd l0 (ji9)) != 10)), (by first | rfl | (simp; done) | (simp only [← hji9] <;> (first | rfl | simp)) | (simp [*]; done) | (simp; generalize ByteArray.toList _ = zq_; cases zq_ <;> rfl)), H', ⟨by have := HK1.out; first | omega | exact Nat.le_refl _⟩, ⟨R_up HO_3.out⟩, ⟨hb_⟩⟩
       ·
        rw [if_neg c8] at H; have c8b0 : decide ((wrap64 (x4_1 + 1)) < (l0.length : Int)) = false := decide_eq_false c8; clear c8; have H' := Aside0.mk H; clear H
        go_wp2
        go_meet
        case rel => exact ⟨_, (false), vl_, H', ⟨by have := HK1.out; first | omega | exact Nat.le_refl _⟩, ⟨R_up HO_3.out⟩, ⟨hb_⟩⟩
      ·
       rw [if_neg c7] at H; have c7b0 : ((rd l0 x4_1) == 32) = false := beq_eq_false_iff_ne.mpr c7; have c7b1 : ((rd l0 x4_1) != 32) = true := bne_iff_ne.mpr c7; (first | rw [c7b0] | (simp only [i64_w, i32_w]; rw [c7b0]) | skip)
       by_cases c11 : (rd l0 x4_1) = 9
       ·
        rw [if_pos c11] at H; have c11b0 : ((rd l0 x4_1) == 9) = true := beq_iff_eq.mpr c11; have c11b1 : ((rd l0 x4_1) != 9) = false := bne_eq_false_iff_eq.mpr c11; clear c11
        by_cases c12 : (wrap64 (x4_1 + 1)) < (l0.length : Int)
        ·
         rw [if_pos c12] at H; have c12b0 : decide ((wrap64 (x4_1 + 1)) < (l0.length : Int)) = true := decide_eq_true c12; clear c12; obtain ⟨ji13, hji13⟩ : ∃ j_ : Int, (wrap64 (x4_1 + 1)) = j_ := ⟨_, rfl⟩
         replace H : (if 0 ≤ (ji13) then (spec_l1Quoted.j1 k1 l0 x3_1 x4_1 (rd l0 x4_1) ((rd l0 (ji13)) != 10)) else (none)) = some r := by first | (rw [hji13] at H; exact H) | (simp only [hji13] at H ⊢; exact H)
         (try rw [hji13] at c12b0); have hji13w : (IntKind.i64.wrap (x4_1 + 1)) = ji13 := (i64_w _).trans hji13; obtain ⟨c14, H⟩ := ifc_ H; have c14b0 : decide (0 ≤ (ji13)) = true := decide_eq_true c14; clear c14; have H' := Aside0.mk H; clear H; have p615 : 0 ≤ ((ji13) : Int) := od_; have q615 : (ji13) < (l0.length : Int) := od_; obtain ⟨ad615, e615, hx615_0⟩ := Kd.at_int HR0.out (ji13) p615 q615; obtain rfl : ad613 = ad615 := (by injection e615); replace hx615_0 := ck_ HB.out hx615_0; replace p615 := eq_true p615; replace q615 := eq_true q615
         go_wp2
         go_meet
         case rel => exact ⟨_, (((rd l0 (ji13)) != 10)), (by first | rfl | (simp; done) | (simp only [← hji13] <;> (first | rfl | simp)) | (simp [*]; done) | (simp; generalize ByteArray.toList _ = zq_; cases zq_ <;> rfl)), H', ⟨by have := HK1.out; first | omega | exact Nat.le_refl _⟩, ⟨R_up HO_3.out⟩, ⟨hb_⟩⟩
        ·
         rw [if_neg c12] at H; have c12b0 : decide ((wrap64 (x4_1 + 1)) < (l0.length : Int)) = false := decide_eq_false c12; clear c12; have H' := Aside0.mk H; clear H
         go_wp2
         go_meet
         case rel => exact ⟨_, (false), vl_, H', ⟨by have := HK1.out; first | omega | exact Nat.le_refl _⟩, ⟨R_up HO_3.out⟩, ⟨hb_⟩⟩
       ·
        rw [if_neg c11] at H; have c11b0 : ((rd l0 x4_1) == 9) = false := beq_eq_false_iff_ne.mpr c11; have c11b1 : ((rd l0 x4_1) != 9) = true := bne_iff_ne.mpr c11; have H' := Aside0.mk H; clear H
        go_wp2
        go_meet
        case rel => exact ⟨_, (false), vl_, H', ⟨by have := HK1.out; first | omega | exact Nat.le_refl _⟩, ⟨R_up HO_3.out⟩, ⟨hb_⟩⟩
     case rest =>
      clear HC6; (try clear c4); (try clear c4b0); (try clear c5); (try clear c5b0); (try clear q6); (try clear hx6); (try clear hx613_0); (try clear hx614_0); (try clear hx615_0); (try clear p613); (try clear q613); (try clear q614); (try clear q615); obtain ⟨kq, x6_5, rfl, HA, HJ5, HO_3, HB⟩ := hcut
      cases kq with
      | zero => exact absurd HA.out (by simp [spec_l1Quoted.j1])
      | succ kj5 =>
        have H := HA.out; clear HA; simp only [spec_l1Quoted.j1] at H; have HC15 := Aside0.mk H; clear H
        go_upto_region 7 with (fail)
        go_cut [55] (fun v55 wc => ∃ (kq : Nat) (x55_14 : Bool), v55 = .bool x55_14 ∧ Aside0 (spec_l1Quoted.j2 kq l0 x3_1 x4_1 (rd l0 x4_1) x55_14 = some r) ∧ Aside0 (kq ≤ kj5) ∧ Aside0 (Kd.R (Kd.int .u8) 5 wc w.heap.size (fun _ => True) u3 x3_1) ∧ Aside0 (Below w.heap.size w wc))
        case first =>
         have H := HC15.out; clear HC15
         by_cases c16 : (rd l0 x4_1) ≥ 33
         ·
          rw [if_pos c16] at H; have c16b0 : decide (33 ≤ (rd l0 x4_1)) = true := decide_eq_true c16; clear c16; (first | rw [c16b0] | (simp only [i64_w, i32_w]; rw [c16b0]) | skip)
          by_cases c17 : (rd l0 x4_1) ≤ 126
          ·
           rw [if_pos c17] at H; have c17b0 : decide ((rd l0 x4_1) ≤ 126) = true := decide_eq_true c17; clear c17
           by_cases c18 : (rd l0 x4_1) = 61
           ·
            rw [if_pos c18] at H; have c18b0 : ((rd l0 x4_1) == 61) = true := beq_iff_eq.mpr c18; have c18b1 : ((rd l0 x4_1) != 61) = false := bne_eq_false_iff_eq.mpr c18; clear c18
            by_cases c19 : (rd l0 x4_1) = 10
            ·
             rw [if_pos c19] at H; have c19b0 : ((rd l0 x4_1) == 10) = true := beq_iff_eq.mpr c19; have c19b1 : ((rd l0 x4_1) != 10) = false := bne_eq_false_iff_eq.mpr c19; clear c19; have H' := Aside0.mk H; clear H
             go_wp2
             go_meet
             case rel => exact ⟨_, (true), vl_, H', ⟨by have := HK1.out; have := HJ5.out; first | omega | exact Nat.le_refl _⟩, ⟨R_up HO_3.out⟩, ⟨hb_⟩⟩
            ·
             rw [if_neg c19] at H; have c19b0 : ((rd l0 x4_1) == 10) = false := beq_eq_false_iff_ne.mpr c19; have c19b1 : ((rd l0 x4_1) != 10) = true := bne_iff_ne.mpr c19; have H' := Aside0.mk H; clear H
             go_wp2
             go_meet
             case rel => exact ⟨_, (x6_5), vl_, H', ⟨by have := HK1.out; have := HJ5.out; first | omega | exact Nat.le_refl _⟩, ⟨R_up HO_3.out⟩, ⟨hb_⟩⟩
           ·
            rw [if_neg c18] at H; have c18b0 : ((rd l0 x4_1) == 61) = false := beq_eq_false_iff_ne.mpr c18; have c18b1 : ((rd l0 x4_1) != 61) = true := bne_iff_ne.mpr c18; have H' := Aside0.mk H; clear H
            go_wp2
            go_meet
            case rel => exact ⟨_, (true), vl_, H', ⟨by have := HK1.out; have := HJ5.out; first | omega | exact Nat.le_refl _⟩, ⟨R_up HO_3.out⟩, ⟨hb_⟩⟩
          ·
           rw [if_neg c17] at H; have c17b0 : decide ((rd l0 x4_1) ≤ 126) = false := decide_eq_false c17; clear c17
           by_cases c20 : (rd l0 x4_1) = 10
           ·
            rw [if_pos c20] at H; have c20b0 : ((rd l0 x4_1) == 10) = true := beq_iff_eq.mpr c20; have c20b1 : ((rd l0 x4_1) != 10) = false := bne_eq_false_iff_eq.mpr c20; clear c20; have H' := Aside0.mk H; clear H
            go_wp2
            go_meet
            case rel => exact ⟨_, (true), vl_, H', ⟨by have := HK1.out; have := HJ5.out; first | omega | exact Nat.le_refl _⟩, ⟨R_up HO_3.out⟩, ⟨hb_⟩⟩
           ·
            rw [if_neg c20] at H; have c20b0 : ((rd l0 x4_1) == 10) = false := beq_eq_false_iff_ne.mpr c20; have c20b1 : ((rd l0 x4_1) != 10) = true := bne_iff_ne.mpr c20; have H' := Aside0.mk H; clear H
            go_wp2
            go_meet
            case rel => exact ⟨_, (x6_5), vl_, H', ⟨by have := HK1.out; have := HJ5.out; first | omega | exact Nat.le_refl _⟩, ⟨R_up HO_3.out⟩, ⟨hb_⟩⟩
         ·
          rw [if_neg c16] at H; have c16b0 : decide (33 ≤ (rd l0 x4_1)) = false := decide_eq_false c16; clear c16; (first | rw [c16b0] | (simp only [i64_w, i32_w]; rw [c16b0]) | skip)
          by_cases c21 : (rd l0 x4_1) = 10
          ·
           rw [if_pos c21] at H; have c21b0 : ((rd l0 x4_1) == 10) = true := beq_iff_eq.mpr c21; have c21b1 : ((rd l0 x4_1) != 10) = false := bne_eq_false_iff_eq.mpr c21; clear c21; have H' := Aside0.mk H; clear H
           go_wp2
           go_meet
           case rel => exact ⟨_, (true), vl_, H', ⟨by have := HK1.out; have := HJ5.out; first | omega | exact Nat.le_refl _⟩, ⟨R_up HO_3.out⟩, ⟨hb_⟩⟩
          ·
           rw [if_neg c21] at H; have c21b0 : ((rd l0 x4_1) == 10) = false := beq_eq_false_iff_ne.mpr c21; have c21b1 : ((rd l0 x4_1) != 10) = true := bne_iff_ne.mpr c21; have H' := Aside0.mk H; clear H
           go_wp2
           go_meet
           case rel => exact ⟨_, (x6_5), vl_, H', ⟨by have := HK1.out; have := HJ5.out; first | omega | exact Nat.le_refl _⟩, ⟨R_up HO_3.out⟩, ⟨hb_⟩⟩
        case rest =>
         clear HC15; (try clear c4); (try clear c4b0); (try clear c5); (try clear c5b0); (try clear q6); (try clear hx6); (try clear hx613_0); (try clear hx614_0); (try clear hx615_0); (try clear p613); (try clear q6); (try clear q613); (try clear q614); (try clear q615); obtain ⟨kq, x55_14, rfl, HA, HJ14, HO_3, HB⟩ := hcut
         cases kq with
         | zero => exact absurd HA.out (by simp [spec_l1Quoted.j2])
         | succ kj14 =>
           have H := HA.out; clear HA; simp only [spec_l1Quoted.j2] at H
           by_cases c22 : x55_14 = true
           ·
            subst c22; (try rw [if_pos rfl] at H); obtain ⟨LMc23, H⟩ := ifn_ H; generalize hy616 : (x3_1 ++ [(rd l0 x4_1)]) = y616 at H; have Ny616 := Aside0.mk hy616.symm; clear hy616; have H' := Aside0.mk H; clear H
            go_wp2_with (first | ((with_reducible refine gate_builtin (b := .append) (xs := #[.tmp 56, .tmp 58]) rfl ?_); (try (refine gate_guard (by rfl) ?_; dsimp only)); at_builtin; refine Kd.R_append (Kd.int .u8) (w0 := w) w.heap.size rfl (.tmp 56) (.tmp 58) 24 5 (.int .u8 0) 1 rfl Try.underlying24 info5 rfl (by decide) (by omega) u3 x3_1 (rd l0 x4_1) [.int .u8 (rd l0 x4_1)] (fun _ => True) (fun _ => False) rfl rfl ?aP (fun _ hk => hk.elim) ?aF ?aO ?aB ?aS ?aL ?_; (case aP => exact rfl); (case aB => exact (HB_up HB.out)); (case aF => exact (fun _ _ => trivial)); (case aO => exact (R_up HO_3.out)); (case aS => exact (below_size (HB_up HB.out))); (case aL => have := LMc23.out; omega); intro v617 w24 ho hb hg hat; rw [← Ny616.out] at ho; have n0_ := Aside0.mk hb; have n1_ := Aside0.mk ho; clear HB HO_3; have HB := n0_; have HO618 := n1_; clear n0_ n1_ ho hb hg hat))
            go_roundg kj14
            case measure => have := HK1.out; have := HJ5.out; have := HJ14.out; omega
            case rel => exact ⟨(y616), (wrap64 (x4_1 + 1)), vl_, H', ⟨by have := HK1.out; have := HJ5.out; have := HJ14.out; omega⟩, ⟨R_up HO618.out⟩, ⟨hb_⟩⟩
           ·
            replace c22 := Bool.eq_false_iff.mpr c22; subst c22; (try rw [if_neg (show ¬ (false = true) by decide)] at H); obtain ⟨t619, A25, H⟩ := bd_ H; (try dsimp only at H); obtain ⟨t620, A26, H⟩ := bd_ H; (try dsimp only at H); obtain ⟨y621, Ny621, H⟩ := nb_ H; obtain ⟨LMc27, H⟩ := ifn_ H; generalize hy624 : (x3_1 ++ y621) = y624 at H; have Ny624 := Aside0.mk hy624.symm; clear hy624; have H' := Aside0.mk H; clear H
            go_wp2_with (first | ((with_reducible refine gate_callee (f := 109) rfl ?_); refine goesY_ (some 63) Try.func109 #[.int .u8 ((Int.tdiv (rd l0 x4_1) 16) % 256)] rfl ?_; (with_reducible refine (spec_l1Hex.calls ((Int.tdiv (rd l0 x4_1) 16) % 256) t619 _ A25.out).mono ?_); rintro e w' ⟨rfl, ⟨nd, rfl⟩⟩; refine ⟨_, rfl, ?_⟩) | ((with_reducible refine gate_callee (f := 109) rfl ?_); refine goesY_ (some 66) Try.func109 #[.int .u8 (Int.tmod (rd l0 x4_1) 16)] rfl ?_; (with_reducible refine (spec_l1Hex.calls (Int.tmod (rd l0 x4_1) 16) t620 _ A26.out).mono ?_); rintro e w' ⟨rfl, ⟨nd, rfl⟩⟩; refine ⟨_, rfl, ?_⟩) | ((with_reducible refine gate_dst (N := 67) rfl ?_); (try (refine gate_guard (by rfl) ?_; dsimp only)); refine Kd.R_lit (Kd.int .u8) _ 5 ?hg (N := 67) ?hd (xs := ([61, t619, t620] : List Int)) (inner := [.int .u8 61, .int .u8 t619, .int .u8 t620]) (ok := fun _ => True) (okp := fun _ => True) ?hr ?hp (fun _ hk => hk) trivial (Below.refl _ _) (Nat.le_refl _) (by simp) ?_; (case hd => rfl); (case hg => rfl); (case hr => first | (go_simp; done) | (go_simp; rfl)); (case hp => exact (Reps.one (show Kd.M (Kd.int .u8) _ _ _ 61 [.int .u8 61] from rfl) (Reps.one (show Kd.M (Kd.int .u8) _ _ _ t619 [.int .u8 t619] from rfl) (Reps.one (show Kd.M (Kd.int .u8) _ _ _ t620 [.int .u8 t620] from rfl) (Reps.none _ _))))); intro v622 w28 ho29 hb hg_ hnew_; clear hg_ hnew_; (first | rw [← Ny621.out] at ho29 | (simp only [Int.reduceToNat] at ho29; rw [← Ny621.out] at ho29)); have HO623 := Aside0.mk (Kd.R_lower (Kd.R_new' ho29 (Kd.R_lt (R_up HO_3.out))) (below_size (HB_up HB.out))); replace HO_3 := el_ HO_3 ho29 hb; replace HB := bs_ HB hb; clear hb ho29; obtain ⟨Ao31, co31, eo31⟩ := Kd.R_slice HO623.out; subst eo31) | ((with_reducible refine gate_builtin (b := .append) (xs := #[.tmp 60, .tmp 67]) rfl ?_); (try (refine gate_guard (by rfl) ?_; dsimp only)); at_builtin; refine Kd.R_append_rows (Kd.int .u8) (w0 := w) w.heap.size rfl (.tmp 60) (.tmp 67) 24 5 (.int .u8 0) 1 rfl Try.underlying24 info5 rfl (by decide) (by omega) u3 x3_1 y621 _ _ _ (fun k_ => some k_ ≠ (.slice Ao31 y621.length co31 : Value).ownBlock) (fun _ => False) rfl rfl ?aO ?aR (fun _ _ h => h) (fun _ h => h.elim) ?aF ?aB ?aS ?aL ?_; (case aR => exact C_up (Kd.R_reads' HO623.out).2.2); (case aB => exact (HB_up HB.out)); (case aF => exact (fun k_ hk => Kd.fresh' (Kd.R_lt (R_up HO623.out)) k_ hk)); (case aO => exact (by (with_reducible repeat (first | apply Kd.R_alloc | apply Kd.R_drewN | apply Kd.R_drew)); exact Kd.R_mono HO_3.out (fun _ hk => hk.2))); (case aS => exact (below_size (HB_up HB.out))); (case aL => have := LMc27.out; omega); intro v625 w30 ho hb hg hat; rw [← Ny624.out] at ho; have n0_ := Aside0.mk (Kd.R_after (ok := (fun _ => True)) (R_up HO623.out) hg hat); have n1_ := Aside0.mk hb; have n2_ := Aside0.mk ho; clear HO623 HB HO_3; have HO623 := n0_; have HB := n1_; have HO626 := n2_; clear n0_ n1_ n2_ ho hb hg hat))
            go_roundg kj14
            case measure => have := HK1.out; have := HJ5.out; have := HJ14.out; omega
            case rel => exact ⟨(y624), (wrap64 (x4_1 + 1)), vl_, H', ⟨by have := HK1.out; have := HJ5.out; have := HJ14.out; omega⟩, ⟨by (with_reducible repeat (first | apply Kd.R_alloc | apply Kd.R_drewN | apply Kd.R_drew)); exact Kd.R_mono HO626.out (fun _ hk => trivial)⟩, ⟨hb_⟩⟩
    ·
     rw [if_neg c4] at H; have c4b0 : decide (x4_1 < (l0.length : Int)) = false := decide_eq_false c4; clear c4; obtain rfl := Option.some.inj H; have hcv32 := own_string (P := Try.prog) Try.underlying24 Try.underlying5 Try.underlying9 (Kd.own_of_R HO_3.out)
     have hcv33 := fun nd_ => own_string (P := Try.prog) Try.underlying24 Try.underlying5 Try.underlying9 (Kd.own_of_R (Kd.R_drewN HO_3.out nd_))
     go_wp2
     go_ret
     exact ⟨ve_, hb_⟩

/-! ### spec_l2Cyrillic: function 113 -/
def spec_l2Cyrillic.j0 : Nat → Int → Bool → Option (Int)
 | 0, _, _ => none
 | k + 1, x0, x3 => if x3 = true then (some x0) else (if x0 = 167 then (some 253) else (if x0 = 8470 then (some 240) else ((spec_l1In.f x0 1025 1119).bind fun t628 => (if t628 = true then (if x0 = 1037 then (some (-1)) else (if x0 = 1104 then (some (-1)) else (if x0 = 1117 then (some (-1)) else (some (wrap64 (x0 - 864)))))) else (some (-1))))))
def spec_l2Cyrillic.f (k : Nat) (a0 : Int) : Option (Int) := (spec_l1In.f a0 0 160).bind fun t627 => (if t627 = true then (spec_l2Cyrillic.j0 k a0 true) else (spec_l2Cyrillic.j0 k a0 (a0 == 173)))
theorem spec_l2Cyrillic.calls (k : Nat) (a0 : Int) (r : Int) (w : World) (h : spec_l2Cyrillic.f k a0 = some r) :
 Calls Try.prog 113 #[.int .i64 a0] w fun e w' => e = .returned (.int .i64 r) ∧ Drawn0 w w' := by
 have H := h; unfold spec_l2Cyrillic.f at H; clear h; have HC2 := Aside0.mk H; clear H
 go_enter Try.func113, Try.ntmps113
 go_upto_region 1 with (fail)
 go_cut [3] (fun v3 wc => ∃ (kq : Nat) (x3_1 : Bool), v3 = .bool x3_1 ∧ Aside0 (spec_l2Cyrillic.j0 kq a0 x3_1 = some r) ∧ Aside0 (kq ≤ k) ∧ Drawn0 w wc)
 case first =>
  have H := HC2.out; clear HC2; obtain ⟨t627, A3, H⟩ := bd_ H; (try dsimp only at H)
  by_cases c4 : t627 = true
  ·
   subst c4; (try rw [if_pos rfl] at H); have H' := Aside0.mk H; clear H
   go_wp2_with (first | ((with_reducible refine gate_callee (f := 72) rfl ?_); refine goesY_ (some 5) Try.func72 #[.int .i64 a0, .int .i64 0, .int .i64 160] rfl ?_; (with_reducible refine (spec_l1In.calls a0 0 160 true _ A3.out).mono ?_); rintro e w' ⟨rfl, ⟨nd, rfl⟩⟩; refine ⟨_, rfl, ?_⟩))
   go_meet
   case rel => exact ⟨_, (true), vl_, H', ⟨le_⟩, dr_⟩
  ·
   replace c4 := Bool.eq_false_iff.mpr c4; subst c4; (try rw [if_neg (show ¬ (false = true) by decide)] at H); have H' := Aside0.mk H; clear H
   go_wp2_with (first | ((with_reducible refine gate_callee (f := 72) rfl ?_); refine goesY_ (some 5) Try.func72 #[.int .i64 a0, .int .i64 0, .int .i64 160] rfl ?_; (with_reducible refine (spec_l1In.calls a0 0 160 false _ A3.out).mono ?_); rintro e w' ⟨rfl, ⟨nd, rfl⟩⟩; refine ⟨_, rfl, ?_⟩))
   go_meet
   case rel => exact ⟨_, ((a0 == 173)), vl_, H', ⟨le_⟩, dr_⟩
 case rest =>
  clear HC2; obtain ⟨kq, x3_1, rfl, HA, HJ1, ⟨mc1, rfl⟩⟩ := hcut
  cases kq with
  | zero => exact absurd HA.out (by simp [spec_l2Cyrillic.j0])
  | succ kj1 =>
    have H := HA.out; clear HA; simp only [spec_l2Cyrillic.j0] at H
    by_cases c5 : x3_1 = true
    ·
     subst c5; (try rw [if_pos rfl] at H); obtain rfl := Option.some.inj H
     go_wp2
     go_ret
     exact ⟨vl_, dr_⟩
    ·
     replace c5 := Bool.eq_false_iff.mpr c5; subst c5; (try rw [if_neg (show ¬ (false = true) by decide)] at H)
     by_cases c6 : a0 = 167
     ·
      rw [if_pos c6] at H; have c6b0 : (a0 == 167) = true := beq_iff_eq.mpr c6; have c6b1 : (a0 != 167) = false := bne_eq_false_iff_eq.mpr c6; clear c6; obtain rfl := Option.some.inj H
      go_wp2
      go_ret
      exact ⟨vl_, dr_⟩
     ·
      rw [if_neg c6] at H; have c6b0 : (a0 == 167) = false := beq_eq_false_iff_ne.mpr c6; have c6b1 : (a0 != 167) = true := bne_iff_ne.mpr c6
      by_cases c7 : a0 = 8470
      ·
       rw [if_pos c7] at H; have c7b0 : (a0 == 8470) = true := beq_iff_eq.mpr c7; have c7b1 : (a0 != 8470) = false := bne_eq_false_iff_eq.mpr c7; clear c7; obtain rfl := Option.some.inj H
       go_wp2
       go_ret
       exact ⟨vl_, dr_⟩
      ·
       rw [if_neg c7] at H; have c7b0 : (a0 == 8470) = false := beq_eq_false_iff_ne.mpr c7; have c7b1 : (a0 != 8470) = true := bne_iff_ne.mpr c7; obtain ⟨t628, A8, H⟩ := bd_ H; (try dsimp only at H)
       by_cases c9 : t628 = true
       ·
        subst c9; (try rw [if_pos rfl] at H)
        by_cases c10 : a0 = 1037
        ·
         rw [if_pos c10] at H; have c10b0 : (a0 == 1037) = true := beq_iff_eq.mpr c10; have c10b1 : (a0 != 1037) = false := bne_eq_false_iff_eq.mpr c10; clear c10; obtain rfl := Option.some.inj H
         go_wp2_with (first | ((with_reducible refine gate_callee (f := 72) rfl ?_); refine goesY_ (some 19) Try.func72 #[.int .i64 a0, .int .i64 1025, .int .i64 1119] rfl ?_; (with_reducible refine (spec_l1In.calls a0 1025 1119 true _ A8.out).mono ?_); rintro e w' ⟨rfl, ⟨nd, rfl⟩⟩; refine ⟨_, rfl, ?_⟩))
         go_ret
         exact ⟨vl_, dr_⟩
        ·
         rw [if_neg c10] at H; have c10b0 : (a0 == 1037) = false := beq_eq_false_iff_ne.mpr c10; have c10b1 : (a0 != 1037) = true := bne_iff_ne.mpr c10
         by_cases c11 : a0 = 1104
         ·
          rw [if_pos c11] at H; have c11b0 : (a0 == 1104) = true := beq_iff_eq.mpr c11; have c11b1 : (a0 != 1104) = false := bne_eq_false_iff_eq.mpr c11; clear c11; obtain rfl := Option.some.inj H
          go_wp2_with (first | ((with_reducible refine gate_callee (f := 72) rfl ?_); refine goesY_ (some 19) Try.func72 #[.int .i64 a0, .int .i64 1025, .int .i64 1119] rfl ?_; (with_reducible refine (spec_l1In.calls a0 1025 1119 true _ A8.out).mono ?_); rintro e w' ⟨rfl, ⟨nd, rfl⟩⟩; refine ⟨_, rfl, ?_⟩))
          go_ret
          exact ⟨vl_, dr_⟩
         ·
          rw [if_neg c11] at H; have c11b0 : (a0 == 1104) = false := beq_eq_false_iff_ne.mpr c11; have c11b1 : (a0 != 1104) = true := bne_iff_ne.mpr c11
          by_cases c12 : a0 = 1117
          ·
           rw [if_pos c12] at H; have c12b0 : (a0 == 1117) = true := beq_iff_eq.mpr c12; have c12b1 : (a0 != 1117) = false := bne_eq_false_iff_eq.mpr c12; clear c12; obtain rfl := Option.some.inj H
           go_wp2_with (first | ((with_reducible refine gate_callee (f := 72) rfl ?_); refine goesY_ (some 19) Try.func72 #[.int .i64 a0, .int .i64 1025, .int .i64 1119] rfl ?_; (with_reducible refine (spec_l1In.calls a0 1025 1119 true _ A8.out).mono ?_); rintro e w' ⟨rfl, ⟨nd, rfl⟩⟩; refine ⟨_, rfl, ?_⟩))
           go_ret
           exact ⟨vl_, dr_⟩
          ·
           rw [if_neg c12] at H; have c12b0 : (a0 == 1117) = false := beq_eq_false_iff_ne.mpr c12; have c12b1 : (a0 != 1117) = true := bne_iff_ne.mpr c12; obtain rfl := Option.some.inj H
           go_wp2_with (first | ((with_reducible refine gate_callee (f := 72) rfl ?_); refine goesY_ (some 19) Try.func72 #[.int .i64 a0, .int .i64 1025, .int .i64 1119] rfl ?_; (with_reducible refine (spec_l1In.calls a0 1025 1119 true _ A8.out).mono ?_); rintro e w' ⟨rfl, ⟨nd, rfl⟩⟩; refine ⟨_, rfl, ?_⟩))
           go_ret
           exact ⟨vl_, dr_⟩
       ·
        replace c9 := Bool.eq_false_iff.mpr c9; subst c9; (try rw [if_neg (show ¬ (false = true) by decide)] at H); obtain rfl := Option.some.inj H
        go_wp2_with (first | ((with_reducible refine gate_callee (f := 72) rfl ?_); refine goesY_ (some 19) Try.func72 #[.int .i64 a0, .int .i64 1025, .int .i64 1119] rfl ?_; (with_reducible refine (spec_l1In.calls a0 1025 1119 false _ A8.out).mono ?_); rintro e w' ⟨rfl, ⟨nd, rfl⟩⟩; refine ⟨_, rfl, ?_⟩))
        go_ret
        exact ⟨vl_, dr_⟩

/-! ### spec_l2Has: function 110 -/
def spec_l2Has.f (k : Nat) (a0 : Int) (a1 : Int) : Option (Bool) := if a0 = 1 then ((spec_l1In.f a1 0 127).bind fun t629 => (some t629)) else (if a0 = 2 then ((spec_l1In.f a1 0 255).bind fun t630 => (some t630)) else (if a0 = 3 then ((spec_l2Cyrillic.f k a1).bind fun t631 => (some (decide (t631 ≥ 0)))) else (some true)))
theorem spec_l2Has.calls (k : Nat) (a0 : Int) (a1 : Int) (r : Bool) (w : World) (h : spec_l2Has.f k a0 a1 = some r) :
 Calls Try.prog 110 #[.int .i64 a0, .int .i64 a1] w fun e w' => e = .returned (.bool r) ∧ Drawn0 w w' := by
 have H := h; unfold spec_l2Has.f at H; clear h
 by_cases c3 : a0 = 1
 ·
  rw [if_pos c3] at H; have c3b0 : (a0 == 1) = true := beq_iff_eq.mpr c3; have c3b1 : (a0 != 1) = false := bne_eq_false_iff_eq.mpr c3; clear c3; replace H := Option.bind_eq_some_iff.mp H; obtain ⟨t629, A40, H⟩ := H; replace H : (some t629) = some r := H; have A4 := Aside0.mk A40; clear A40; obtain rfl := Option.some.inj H
  go_enter Try.func110, Try.ntmps110
  go_wp2_with (first | ((with_reducible refine gate_callee (f := 72) rfl ?_); refine goesY_ (some 9) Try.func72 #[.int .i64 a1, .int .i64 0, .int .i64 127] rfl ?_; (with_reducible refine (spec_l1In.calls a1 0 127 t629 _ A4.out).mono ?_); rintro e w' ⟨rfl, ⟨nd, rfl⟩⟩; refine ⟨_, rfl, ?_⟩))
  go_ret
  exact ⟨vl_, dr_⟩
 ·
  rw [if_neg c3] at H; have c3b0 : (a0 == 1) = false := beq_eq_false_iff_ne.mpr c3; have c3b1 : (a0 != 1) = true := bne_iff_ne.mpr c3
  by_cases c5 : a0 = 2
  ·
   rw [if_pos c5] at H; have c5b0 : (a0 == 2) = true := beq_iff_eq.mpr c5; have c5b1 : (a0 != 2) = false := bne_eq_false_iff_eq.mpr c5; clear c5; replace H := Option.bind_eq_some_iff.mp H; obtain ⟨t630, A60, H⟩ := H; replace H : (some t630) = some r := H; have A6 := Aside0.mk A60; clear A60; obtain rfl := Option.some.inj H
   go_enter Try.func110, Try.ntmps110
   go_wp2_with (first | ((with_reducible refine gate_callee (f := 72) rfl ?_); refine goesY_ (some 13) Try.func72 #[.int .i64 a1, .int .i64 0, .int .i64 255] rfl ?_; (with_reducible refine (spec_l1In.calls a1 0 255 t630 _ A6.out).mono ?_); rintro e w' ⟨rfl, ⟨nd, rfl⟩⟩; refine ⟨_, rfl, ?_⟩))
   go_ret
   exact ⟨vl_, dr_⟩
  ·
   rw [if_neg c5] at H; have c5b0 : (a0 == 2) = false := beq_eq_false_iff_ne.mpr c5; have c5b1 : (a0 != 2) = true := bne_iff_ne.mpr c5
   by_cases c7 : a0 = 3
   ·
    rw [if_pos c7] at H; have c7b0 : (a0 == 3) = true := beq_iff_eq.mpr c7; have c7b1 : (a0 != 3) = false := bne_eq_false_iff_eq.mpr c7; clear c7; replace H := Option.bind_eq_some_iff.mp H; obtain ⟨t631, A80, H⟩ := H; replace H : (some (decide (t631 ≥ 0))) = some r := H; have A8 := Aside0.mk A80; clear A80; obtain rfl := Option.some.inj H
    go_enter Try.func110, Try.ntmps110
    go_wp2_with (first | ((with_reducible refine gate_callee (f := 113) rfl ?_); refine goesY_ (some 17) Try.func113 #[.int .i64 a1] rfl ?_; (with_reducible refine (spec_l2Cyrillic.calls k a1 t631 _ A8.out).mono ?_); rintro e w' ⟨rfl, ⟨nd, rfl⟩⟩; refine ⟨_, rfl, ?_⟩))
    go_ret
    exact ⟨vl_, dr_⟩
   ·
    rw [if_neg c7] at H; have c7b0 : (a0 == 3) = false := beq_eq_false_iff_ne.mpr c7; have c7b1 : (a0 != 3) = true := bne_iff_ne.mpr c7; obtain rfl := Option.some.inj H
    go_enter Try.func110, Try.ntmps110
    go_wp2
    go_ret
    exact ⟨vl_, dr_⟩

/-! ### spec_l2Bytes: function 111 -/
def spec_l2Bytes.j0 : Nat → Int → Int → Bool → Option (List Int)
 | 0, _, _, _ => none
 | k + 1, x1, x5, x6 => if x6 = true then (some (([(x1) % 256] : List Int))) else (if x5 = 3 then ((spec_l2Cyrillic.f k x1).bind fun t635 => (some (([(t635) % 256] : List Int)))) else (if x5 = 5 then (some (([(wrap64 (Int.tdiv x1 256)) % 256, (Int.tmod x1 256) % 256] : List Int))) else (if x1 < 128 then (some (([(x1) % 256] : List Int))) else (if x1 < 2048 then (some (([(wrap64 (192 + (wrap64 (Int.tdiv x1 64)))) % 256, (wrap64 (128 + (Int.tmod x1 64))) % 256] : List Int))) else (some (([(wrap64 (224 + (wrap64 (Int.tdiv x1 4096)))) % 256, (wrap64 (128 + (Int.tmod (wrap64 (Int.tdiv x1 64)) 64))) % 256, (wrap64 (128 + (Int.tmod x1 64))) % 256] : List Int)))))))
def spec_l2Bytes.f (k : Nat) (a0 : Int) (a1 : Int) : Option (List Int) := if a0 = 1 then (spec_l2Bytes.j0 k a1 a0 (a0 == 1)) else (spec_l2Bytes.j0 k a1 a0 (a0 == 2))
theorem spec_l2Bytes.calls (k : Nat) (a0 : Int) (a1 : Int) (r : List Int) (w : World) (h : spec_l2Bytes.f k a0 a1 = some r) :
 Calls Try.prog 111 #[.int .i64 a0, .int .i64 a1] w fun e w' => ∃ v0_ : Value, e = .returned (v0_) ∧ Kd.R (Kd.int .u8) 5 w' w.heap.size (fun _ => True) v0_ r ∧ Below w.heap.size w w' := by
 have HB := Aside0.mk (Below.refl w.heap.size w); have H := h; unfold spec_l2Bytes.f at H; clear h; have HC3 := Aside0.mk H; clear H
 go_enter Try.func111, Try.ntmps111
 go_upto_if 6 with (fail)
 go_cut [6] (fun v6 wc => ∃ (kq : Nat) (x6_2 : Bool), v6 = .bool x6_2 ∧ Aside0 (spec_l2Bytes.j0 kq a1 a0 x6_2 = some r) ∧ Aside0 (kq ≤ k) ∧ Aside0 (Below w.heap.size w wc))
 case first =>
  have H := HC3.out; clear HC3
  by_cases c4 : a0 = 1
  ·
   rw [if_pos c4] at H; have c4b0 : (a0 == 1) = true := beq_iff_eq.mpr c4; have c4b1 : (a0 != 1) = false := bne_eq_false_iff_eq.mpr c4; clear c4; (first | rw [c4b0] | (simp only [i64_w, i32_w]; rw [c4b0]) | skip); have H' := Aside0.mk H; clear H
   go_wp2
   go_meet
   case rel => exact ⟨_, ((a0 == 1)), vl_, H', ⟨le_⟩, ⟨hb_⟩⟩
  ·
   rw [if_neg c4] at H; have c4b0 : (a0 == 1) = false := beq_eq_false_iff_ne.mpr c4; have c4b1 : (a0 != 1) = true := bne_iff_ne.mpr c4; (first | rw [c4b0] | (simp only [i64_w, i32_w]; rw [c4b0]) | skip); have H' := Aside0.mk H; clear H
   go_wp2
   go_meet
   case rel => exact ⟨_, ((a0 == 2)), vl_, H', ⟨le_⟩, ⟨hb_⟩⟩
 case rest =>
  clear HC3; obtain ⟨kq, x6_2, rfl, HA, HJ2, HB⟩ := hcut
  cases kq with
  | zero => exact absurd HA.out (by simp [spec_l2Bytes.j0])
  | succ kj2 =>
    have H := HA.out; clear HA; simp only [spec_l2Bytes.j0] at H
    by_cases c5 : x6_2 = true
    ·
     subst c5; (try rw [if_pos rfl] at H); generalize hy632 : (([(a1) % 256] : List Int)) = y632 at H; have Ny632 := Aside0.mk hy632.symm; clear hy632; obtain rfl := Option.some.inj H
     go_wp2_with (first | ((with_reducible refine gate_dst (N := 11) rfl ?_); refine Kd.R_lit (Kd.int .u8) _ 5 ?hg (N := 11) ?hd (xs := ([(a1) % 256] : List Int)) (inner := [.int .u8 ((a1) % 256)]) (ok := fun _ => True) (okp := fun _ => True) ?hr ?hp (fun _ hk => hk) trivial (Below.refl _ _) (Nat.le_refl _) (by simp) ?_; (case hd => rfl); (case hg => rfl); (case hr => first | (go_simp; done) | (go_simp; rfl)); (case hp => exact (Reps.one (show Kd.M (Kd.int .u8) _ _ _ ((a1) % 256) [.int .u8 ((a1) % 256)] from rfl) (Reps.none _ _))); intro v633 w6 ho7 hb hg_ hnew_; clear hg_ hnew_; (first | rw [← Ny632.out] at ho7 | (simp only [Int.reduceToNat] at ho7; rw [← Ny632.out] at ho7)); have HO634 := rl_ ho7 HB; replace HB := bs_ HB hb; clear hb ho7))
     go_ret
     exact ⟨_, ve_, R_up HO634.out, hb_⟩
    ·
     replace c5 := Bool.eq_false_iff.mpr c5; subst c5; (try rw [if_neg (show ¬ (false = true) by decide)] at H)
     by_cases c8 : a0 = 3
     ·
      rw [if_pos c8] at H; have c8b0 : (a0 == 3) = true := beq_iff_eq.mpr c8; have c8b1 : (a0 != 3) = false := bne_eq_false_iff_eq.mpr c8; clear c8; replace H := Option.bind_eq_some_iff.mp H; obtain ⟨t635, A90, H⟩ := H; replace H : (some (([(t635) % 256] : List Int))) = some r := H; have A9 := Aside0.mk A90; clear A90; generalize hy636 : (([(t635) % 256] : List Int)) = y636 at H; have Ny636 := Aside0.mk hy636.symm; clear hy636; obtain rfl := Option.some.inj H
      go_wp2_with (first | ((with_reducible refine gate_callee (f := 113) rfl ?_); refine goesY_ (some 15) Try.func113 #[.int .i64 a1] rfl ?_; (with_reducible refine (spec_l2Cyrillic.calls kj2 a1 t635 _ A9.out).mono ?_); rintro e w' ⟨rfl, ⟨nd, rfl⟩⟩; refine ⟨_, rfl, ?_⟩) | ((with_reducible refine gate_dst (N := 17) rfl ?_); refine Kd.R_lit (Kd.int .u8) _ 5 ?hg (N := 17) ?hd (xs := ([(t635) % 256] : List Int)) (inner := [.int .u8 ((t635) % 256)]) (ok := fun _ => True) (okp := fun _ => True) ?hr ?hp (fun _ hk => hk) trivial (Below.refl _ _) (Nat.le_refl _) (by simp) ?_; (case hd => rfl); (case hg => rfl); (case hr => first | (go_simp; done) | (go_simp; rfl)); (case hp => exact (Reps.one (show Kd.M (Kd.int .u8) _ _ _ ((t635) % 256) [.int .u8 ((t635) % 256)] from rfl) (Reps.none _ _))); intro v637 w10 ho11 hb hg_ hnew_; clear hg_ hnew_; (first | rw [← Ny636.out] at ho11 | (simp only [Int.reduceToNat] at ho11; rw [← Ny636.out] at ho11)); have HO638 := rl_ ho11 HB; replace HB := bs_ HB hb; clear hb ho11))
      go_ret
      exact ⟨_, ve_, R_up HO638.out, hb_⟩
     ·
      rw [if_neg c8] at H; have c8b0 : (a0 == 3) = false := beq_eq_false_iff_ne.mpr c8; have c8b1 : (a0 != 3) = true := bne_iff_ne.mpr c8
      by_cases c12 : a0 = 5
      ·
       rw [if_pos c12] at H; have c12b0 : (a0 == 5) = true := beq_iff_eq.mpr c12; have c12b1 : (a0 != 5) = false := bne_eq_false_iff_eq.mpr c12; clear c12; generalize hy639 : (([(wrap64 (Int.tdiv a1 256)) % 256, (Int.tmod a1 256) % 256] : List Int)) = y639 at H; have Ny639 := Aside0.mk hy639.symm; clear hy639; obtain rfl := Option.some.inj H
       go_wp2_with (first | ((with_reducible refine gate_dst (N := 26) rfl ?_); refine Kd.R_lit (Kd.int .u8) _ 5 ?hg (N := 26) ?hd (xs := ([(wrap64 (Int.tdiv a1 256)) % 256, (Int.tmod a1 256) % 256] : List Int)) (inner := [.int .u8 ((wrap64 (Int.tdiv a1 256)) % 256), .int .u8 ((Int.tmod a1 256) % 256)]) (ok := fun _ => True) (okp := fun _ => True) ?hr ?hp (fun _ hk => hk) trivial (Below.refl _ _) (Nat.le_refl _) (by simp) ?_; (case hd => rfl); (case hg => rfl); (case hr => first | (go_simp; done) | (go_simp; rfl)); (case hp => exact (Reps.one (show Kd.M (Kd.int .u8) _ _ _ ((wrap64 (Int.tdiv a1 256)) % 256) [.int .u8 ((wrap64 (Int.tdiv a1 256)) % 256)] from rfl) (Reps.one (show Kd.M (Kd.int .u8) _ _ _ ((Int.tmod a1 256) % 256) [.int .u8 ((Int.tmod a1 256) % 256)] from rfl) (Reps.none _ _)))); intro v640 w13 ho14 hb hg_ hnew_; clear hg_ hnew_; (first | rw [← Ny639.out] at ho14 | (simp only [Int.reduceToNat] at ho14; rw [← Ny639.out] at ho14)); have HO641 := rl_ ho14 HB; replace HB := bs_ HB hb; clear hb ho14))
       go_ret
       exact ⟨_, ve_, R_up HO641.out, hb_⟩
      ·
       rw [if_neg c12] at H; have c12b0 : (a0 == 5) = false := beq_eq_false_iff_ne.mpr c12; have c12b1 : (a0 != 5) = true := bne_iff_ne.mpr c12
       by_cases c15 : a1 < 128
       ·
        rw [if_pos c15] at H; have c15b0 : decide (a1 < 128) = true := decide_eq_true c15; clear c15; generalize hy642 : (([(a1) % 256] : List Int)) = y642 at H; have Ny642 := Aside0.mk hy642.symm; clear hy642; obtain rfl := Option.some.inj H
        go_wp2_with (first | ((with_reducible refine gate_dst (N := 31) rfl ?_); refine Kd.R_lit (Kd.int .u8) _ 5 ?hg (N := 31) ?hd (xs := ([(a1) % 256] : List Int)) (inner := [.int .u8 ((a1) % 256)]) (ok := fun _ => True) (okp := fun _ => True) ?hr ?hp (fun _ hk => hk) trivial (Below.refl _ _) (Nat.le_refl _) (by simp) ?_; (case hd => rfl); (case hg => rfl); (case hr => first | (go_simp; done) | (go_simp; rfl)); (case hp => exact (Reps.one (show Kd.M (Kd.int .u8) _ _ _ ((a1) % 256) [.int .u8 ((a1) % 256)] from rfl) (Reps.none _ _))); intro v643 w16 ho17 hb hg_ hnew_; clear hg_ hnew_; (first | rw [← Ny642.out] at ho17 | (simp only [Int.reduceToNat] at ho17; rw [← Ny642.out] at ho17)); have HO644 := rl_ ho17 HB; replace HB := bs_ HB hb; clear hb ho17))
        go_ret
        exact ⟨_, ve_, R_up HO644.out, hb_⟩
       ·
        rw [if_neg c15] at H; have c15b0 : decide (a1 < 128) = false := decide_eq_false c15; clear c15
        by_cases c18 : a1 < 2048
        ·
         rw [if_pos c18] at H; have c18b0 : decide (a1 < 2048) = true := decide_eq_true c18; clear c18; generalize hy645 : (([(wrap64 (192 + (wrap64 (Int.tdiv a1 64)))) % 256, (wrap64 (128 + (Int.tmod a1 64))) % 256] : List Int)) = y645 at H; have Ny645 := Aside0.mk hy645.symm; clear hy645; obtain rfl := Option.some.inj H
         go_wp2_with (first | ((with_reducible refine gate_dst (N := 42) rfl ?_); refine Kd.R_lit (Kd.int .u8) _ 5 ?hg (N := 42) ?hd (xs := ([(wrap64 (192 + (wrap64 (Int.tdiv a1 64)))) % 256, (wrap64 (128 + (Int.tmod a1 64))) % 256] : List Int)) (inner := [.int .u8 ((wrap64 (192 + (wrap64 (Int.tdiv a1 64)))) % 256), .int .u8 ((wrap64 (128 + (Int.tmod a1 64))) % 256)]) (ok := fun _ => True) (okp := fun _ => True) ?hr ?hp (fun _ hk => hk) trivial (Below.refl _ _) (Nat.le_refl _) (by simp) ?_; (case hd => rfl); (case hg => rfl); (case hr => first | (go_simp; done) | (go_simp; rfl)); (case hp => exact (Reps.one (show Kd.M (Kd.int .u8) _ _ _ ((wrap64 (192 + (wrap64 (Int.tdiv a1 64)))) % 256) [.int .u8 ((wrap64 (192 + (wrap64 (Int.tdiv a1 64)))) % 256)] from rfl) (Reps.one (show Kd.M (Kd.int .u8) _ _ _ ((wrap64 (128 + (Int.tmod a1 64))) % 256) [.int .u8 ((wrap64 (128 + (Int.tmod a1 64))) % 256)] from rfl) (Reps.none _ _)))); intro v646 w19 ho20 hb hg_ hnew_; clear hg_ hnew_; (first | rw [← Ny645.out] at ho20 | (simp only [Int.reduceToNat] at ho20; rw [← Ny645.out] at ho20)); have HO647 := rl_ ho20 HB; replace HB := bs_ HB hb; clear hb ho20))
         go_ret
         exact ⟨_, ve_, R_up HO647.out, hb_⟩
        ·
         rw [if_neg c18] at H; have c18b0 : decide (a1 < 2048) = false := decide_eq_false c18; clear c18; generalize hy648 : (([(wrap64 (224 + (wrap64 (Int.tdiv a1 4096)))) % 256, (wrap64 (128 + (Int.tmod (wrap64 (Int.tdiv a1 64)) 64))) % 256, (wrap64 (128 + (Int.tmod a1 64))) % 256] : List Int)) = y648 at H; have Ny648 := Aside0.mk hy648.symm; clear hy648; obtain rfl := Option.some.inj H
         go_wp2_with (first | ((with_reducible refine gate_dst (N := 56) rfl ?_); refine Kd.R_lit (Kd.int .u8) _ 5 ?hg (N := 56) ?hd (xs := ([(wrap64 (224 + (wrap64 (Int.tdiv a1 4096)))) % 256, (wrap64 (128 + (Int.tmod (wrap64 (Int.tdiv a1 64)) 64))) % 256, (wrap64 (128 + (Int.tmod a1 64))) % 256] : List Int)) (inner := [.int .u8 ((wrap64 (224 + (wrap64 (Int.tdiv a1 4096)))) % 256), .int .u8 ((wrap64 (128 + (Int.tmod (wrap64 (Int.tdiv a1 64)) 64))) % 256), .int .u8 ((wrap64 (128 + (Int.tmod a1 64))) % 256)]) (ok := fun _ => True) (okp := fun _ => True) ?hr ?hp (fun _ hk => hk) trivial (Below.refl _ _) (Nat.le_refl _) (by simp) ?_; (case hd => rfl); (case hg => rfl); (case hr => first | (go_simp; done) | (go_simp; rfl)); (case hp => exact (Reps.one (show Kd.M (Kd.int .u8) _ _ _ ((wrap64 (224 + (wrap64 (Int.tdiv a1 4096)))) % 256) [.int .u8 ((wrap64 (224 + (wrap64 (Int.tdiv a1 4096)))) % 256)] from rfl) (Reps.one (show Kd.M (Kd.int .u8) _ _ _ ((wrap64 (128 + (Int.tmod (wrap64 (Int.tdiv a1 64)) 64))) % 256) [.int .u8 ((wrap64 (128 + (Int.tmod (wrap64 (Int.tdiv a1 64)) 64))) % 256)] from rfl) (Reps.one (show Kd.M (Kd.int .u8) _ _ _ ((wrap64 (128 + (Int.tmod a1 64))) % 256) [.int .u8 ((wrap64 (128 + (Int.tmod a1 64))) % 256)] from rfl) (Reps.none _ _))))); intro v649 w21 ho22 hb hg_ hnew_; clear hg_ hnew_; (first | rw [← Ny648.out] at ho22 | (simp only [Int.reduceToNat] at ho22; rw [← Ny648.out] at ho22)); have HO650 := rl_ ho22 HB; replace HB := bs_ HB hb; clear hb ho22))
         go_ret
         exact ⟨_, ve_, R_up HO650.out, hb_⟩

/-! ### spec_l2Encode: function 105 -/
def spec_l2Encode.l0 : Nat → Int → List Int → List Int → Int → Option (List Int × Int)
 | 0, _, _, _, _ => none
 | k + 1, x0, x1, x6, x7 => if x7 < (x1.length : Int) then (if 0 ≤ x7 then ((spec_l2Has.f k x0 (rd x1 x7)).bind fun t655 => (if t655 = true then ((spec_l2Bytes.f k x0 (rd x1 x7)).bind fun t657 => (if x6.length + t657.length < 140737488355328 then (spec_l2Encode.l0 k x0 x1 (x6 ++ t657) (wrap64 (x7 + 1))) else (none))) else (some (([] : List Int), 8)))) else (none)) else (if (x6.length : Int) > 400 then (some (([] : List Int), 2)) else (some (x6, 0)))
def spec_l2Encode.f (k : Nat) (a0 : Int) (l1 : List Int) : Option (List Int × Int) := spec_l2Encode.l0 k a0 l1 (([] : List Int)) 0
theorem spec_l2Encode.calls (k : Nat) (a0 : Int) (A1 : Option Addr) (c1 : Nat) (l1 : List Int) (r1 : List Int) (r2 : Int) (w : World) (hr1 : Kd.C (Kd.int .i64) w A1 l1.length l1) (hc1 : l1.length ≤ c1) (h : spec_l2Encode.f k a0 l1 = some (r1, r2)) :
 Calls Try.prog 105 #[.int .i64 a0, .slice A1 l1.length c1] w fun e w' => ∃ v0_ : Value, e = .returned (.tuple #[v0_, .int .i64 r2]) ∧ Kd.R (Kd.int .u8) 5 w' w.heap.size (fun _ => True) v0_ r1 ∧ Below w.heap.size w w' := by
 have HR1 := Aside0.mk hr1; have HC1 := Aside0.mk hc1; clear hr1 hc1; have HB := Aside0.mk (Below.refl w.heap.size w); have H := h; unfold spec_l2Encode.f at H; clear h; generalize hy651 : (([] : List Int)) = y651 at H; have Ny651 := Aside0.mk hy651.symm; clear hy651; have H' := Aside0.mk H; clear H
 go_enter Try.func105, Try.ntmps105
 go_wp2_with (first | ((with_reducible refine gate_dst (N := 8) rfl ?_); refine Kd.R_lit (Kd.int .u8) _ 5 ?hg (N := 8) ?hd (xs := ([] : List Int)) (inner := []) (ok := fun _ => True) (okp := fun _ => True) ?hr ?hp (fun _ hk => hk) trivial (Below.refl _ _) (Nat.le_refl _) (by simp) ?_; (case hd => rfl); (case hg => rfl); (case hr => first | (go_simp; done) | (go_simp; rfl)); (case hp => exact (Reps.none _ _)); intro v652 w3 ho4 hb hg_ hnew_; clear hg_ hnew_; (first | rw [← Ny651.out] at ho4 | (simp only [Int.reduceToNat] at ho4; rw [← Ny651.out] at ho4)); have HO653 := rl_ ho4 HB; replace HB := bs_ HB hb; clear hb ho4))
 go_loopg [6, 7] k (fun kq v6 v7 w' => ∃ (x6_1 : List Int) (x7_1 : Int), v7 = .int .i64 x7_1 ∧ Aside0 (spec_l2Encode.l0 kq a0 l1 x6_1 x7_1 = some (r1, r2)) ∧ Aside0 (kq ≤ k) ∧ Aside0 (Kd.R (Kd.int .u8) 5 w' w.heap.size (fun _ => True) v6 x6_1) ∧ Aside0 (Below w.heap.size w w'))
 case atStart => exact ⟨(y651), (0), vl_, H', ⟨Nat.le_refl _⟩, ⟨R_up HO653.out⟩, ⟨hb_⟩⟩
 case round =>
  clear H'; (try clear c1); obtain ⟨x6_1, x7_1, rfl, HA, HK1, HO_6, HB⟩ := hrel
  cases gk with
  | zero => exact absurd HA.out (by simp [spec_l2Encode.l0])
  | succ k1 =>
    have H := HA.out; clear HA; simp only [spec_l2Encode.l0] at H
    by_cases c5 : x7_1 < (l1.length : Int)
    ·
     rw [if_pos c5] at H; have c5b0 : decide (x7_1 < (l1.length : Int)) = true := decide_eq_true c5; clear c5; obtain ⟨c6, H⟩ := ifc_ H; have c6b0 : decide (0 ≤ x7_1) = true := decide_eq_true c6; clear c6; obtain ⟨t655, A7, H⟩ := bd_ H; (try dsimp only at H)
     by_cases c8 : t655 = true
     ·
      subst c8; (try rw [if_pos rfl] at H); obtain ⟨t657, A9, H⟩ := bd_ H; (try dsimp only at H); obtain ⟨LMc10, H⟩ := ifn_ H; generalize hy660 : (x6_1 ++ t657) = y660 at H; have Ny660 := Aside0.mk hy660.symm; clear hy660; have H' := Aside0.mk H; clear H; have p654 : 0 ≤ (x7_1 : Int) := od_; have q654 : x7_1 < (l1.length : Int) := od_; obtain ⟨ad654, e654, hx654_0⟩ := Kd.at_int HR1.out x7_1 p654 q654
      cases e654
      replace hx654_0 := ck_ HB.out hx654_0; replace p654 := eq_true p654; replace q654 := eq_true q654
      go_wp2_with (first | ((with_reducible refine gate_callee (f := 110) rfl ?_); refine goesY_ (some 20) Try.func110 #[.int .i64 a0, .int .i64 (rd l1 x7_1)] rfl ?_; (with_reducible refine (spec_l2Has.calls k1 a0 (rd l1 x7_1) true _ A7.out).mono ?_); rintro e w' ⟨rfl, ⟨nd, rfl⟩⟩; refine ⟨_, rfl, ?_⟩; have p656 : 0 ≤ (x7_1 : Int) := od_; have q656 : x7_1 < (l1.length : Int) := od_; obtain ⟨ad656, e656, hx656_0⟩ := Kd.at_int HR1.out x7_1 p656 q656; obtain rfl : ad654 = ad656 := (by injection e656); replace hx656_0 := ck_ HB.out hx656_0; replace p656 := eq_true p656; replace q656 := eq_true q656) | ((with_reducible refine gate_callee (f := 111) rfl ?_); refine goesY_ (some 28) Try.func111 #[.int .i64 a0, .int .i64 (rd l1 x7_1)] rfl ?_; (with_reducible refine (spec_l2Bytes.calls k1 a0 (rd l1 x7_1) t657 _ A9.out).mono ?_); rintro e w11 ⟨v658, rfl, ho0, hb⟩; refine ⟨_, rfl, ?_⟩; have HO659 := Aside0.mk (Kd.R_lower (Kd.R_new' ho0 (Kd.R_lt (R_up HO_6.out))) (below_size (HB_up HB.out))); replace HO_6 := el_ HO_6 ho0 hb; replace HB := bs_ HB hb; (try clear hb); (try clear hb2); (try clear hk); (try clear hi); (try clear ho0); obtain ⟨Ao13, co13, eo13⟩ := Kd.R_slice HO659.out; subst eo13) | ((with_reducible refine gate_builtin (b := .append) (xs := #[.tmp 22, .tmp 28]) rfl ?_); at_builtin; refine Kd.R_append_rows (Kd.int .u8) (w0 := w) w.heap.size rfl (.tmp 22) (.tmp 28) 24 5 (.int .u8 0) 1 rfl Try.underlying24 info5 rfl (by decide) (by omega) u6 x6_1 t657 _ _ _ (fun k_ => some k_ ≠ (.slice Ao13 t657.length co13 : Value).ownBlock) (fun _ => False) rfl rfl ?aO ?aR (fun _ _ h => h) (fun _ h => h.elim) ?aF ?aB ?aS ?aL ?_; (case aR => exact C_up (Kd.R_reads' HO659.out).2.2); (case aB => exact (HB_up HB.out)); (case aF => exact (fun k_ hk => Kd.fresh' (Kd.R_lt (R_up HO659.out)) k_ hk)); (case aO => exact (by (with_reducible repeat (first | apply Kd.R_alloc | apply Kd.R_drewN | apply Kd.R_drew)); exact Kd.R_mono HO_6.out (fun _ hk => hk.2))); (case aS => exact (below_size (HB_up HB.out))); (case aL => have := LMc10.out; omega); intro v661 w12 ho hb hg hat; rw [← Ny660.out] at ho; have n0_ := Aside0.mk (Kd.R_after (ok := (fun _ => True)) (R_up HO659.out) hg hat); have n1_ := Aside0.mk hb; have n2_ := Aside0.mk ho; clear HO659 HB HO_6; have HO659 := n0_; have HB := n1_; have HO662 := n2_; clear n0_ n1_ n2_ ho hb hg hat))
      go_roundg k1
      case measure => have := HK1.out; omega
      case rel => exact ⟨(y660), (wrap64 (x7_1 + 1)), vl_, H', ⟨by have := HK1.out; omega⟩, ⟨by (with_reducible repeat (first | apply Kd.R_alloc | apply Kd.R_drewN | apply Kd.R_drew)); exact Kd.R_mono HO662.out (fun _ hk => trivial)⟩, ⟨hb_⟩⟩
     ·
      replace c8 := Bool.eq_false_iff.mpr c8; subst c8; (try rw [if_neg (show ¬ (false = true) by decide)] at H); simp only [Option.some.injEq, Prod.mk.injEq] at H; obtain ⟨rfl, rfl⟩ := H; have p654 : 0 ≤ (x7_1 : Int) := od_; have q654 : x7_1 < (l1.length : Int) := od_; obtain ⟨ad654, e654, hx654_0⟩ := Kd.at_int HR1.out x7_1 p654 q654
      cases e654
      replace hx654_0 := ck_ HB.out hx654_0; replace p654 := eq_true p654; replace q654 := eq_true q654
      go_wp2_with (first | ((with_reducible refine gate_callee (f := 110) rfl ?_); refine goesY_ (some 20) Try.func110 #[.int .i64 a0, .int .i64 (rd l1 x7_1)] rfl ?_; (with_reducible refine (spec_l2Has.calls k1 a0 (rd l1 x7_1) false _ A7.out).mono ?_); rintro e w' ⟨rfl, ⟨nd, rfl⟩⟩; refine ⟨_, rfl, ?_⟩))
      go_ret2
      exact ⟨_, ve_, by first | exact Kd.R_nil _ _ _ _ _ | exact Kd.N_nil _ _ _ _ _ | exact Kd.V_nil _ _ _ _ _ | exact Kd.Q_nil _ _ _ _ _ | exact Kd.S_nil _ _ _ _ _, hb_⟩
    ·
     rw [if_neg c5] at H; have c5b0 : decide (x7_1 < (l1.length : Int)) = false := decide_eq_false c5; clear c5
     by_cases c14 : (x6_1.length : Int) > 400
     ·
      rw [if_pos c14] at H; have c14b0 : decide (400 < (x6_1.length : Int)) = true := decide_eq_true c14; have c14b1 : decide (400 < x6_1.length) = true := decide_eq_true (by omega); clear c14; simp only [Option.some.injEq, Prod.mk.injEq] at H; obtain ⟨rfl, rfl⟩ := H; obtain ⟨Ao15, co15, eo15⟩ := Kd.R_slice HO_6.out; subst eo15
      go_wp2
      go_ret2
      exact ⟨_, ve_, by first | exact Kd.R_nil _ _ _ _ _ | exact Kd.N_nil _ _ _ _ _ | exact Kd.V_nil _ _ _ _ _ | exact Kd.Q_nil _ _ _ _ _ | exact Kd.S_nil _ _ _ _ _, hb_⟩
     ·
      rw [if_neg c14] at H; have c14b0 : decide (400 < (x6_1.length : Int)) = false := decide_eq_false c14; have c14b1 : decide (400 < x6_1.length) = false := decide_eq_false (by omega); clear c14; simp only [Option.some.injEq, Prod.mk.injEq] at H; obtain ⟨rfl, rfl⟩ := H; obtain ⟨Ao16, co16, eo16⟩ := Kd.R_slice HO_6.out; subst eo16
      go_wp2
      go_ret2
      exact ⟨_, ve_, R_up HO_6.out, hb_⟩

end Go.Proofs.Ytehdbobpbcjmeaa.PFnJournals

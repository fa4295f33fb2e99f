/- Functions of the program as Lean functions, each with the proof that its call comes to what that function says (texts written by a program of this session). Conditions: those that stand in each theorem. -/
import Derived.Test.YtnehephjliankaaPFnExactCmdFaultx0
import Derived.Test.YtnehephjliankaaPFnExactCmdFaultx8
import Derived.Test.YtnehephjliankaaPFnExactCmdFaultx10
import Derived.Test.YtnehephjliankaaPFnExactCmdFaultx11
import Derived.Test.YtnehephjliankaaPFnExactCmdFaultx12
namespace Go.Proofs.Ytnehephjliankaa.PFnExactCmdFault
open Go.RowKit Go.Proofs.YtnehephjliankaaW.PrintWords Go.Proofs.YtnehephjliankaaW.PrintLast Go.Proofs.YtnehephjliankaaW.PrintMore
attribute [local go_sem] max2_int min2_int max_two min_two max_three min_three max_four min_four   -- for this text's walks alone
set_option linter.unusedVariables false
set_option linter.unusedSimpArgs false

/-! ### impl_TermsFault: function 45 -/
mutual
def impl_TermsFault.l0 : Nat → List (S104) → List Int → List (S104) → Int → Int → Option (Int)
 | 0, _, _, _, _, _ => none
 | k + 1, x0, x3, x14, x15, x16 => if x16 < x15 then (if 0 ≤ x16 then (if x16 < (x14.length : Int) then ((impl_within.f ((rd_T104 x14 x16).f0) 1 11).bind fun t411 => (if t411 = true then ((impl_Term_isOnly.f ((rd_T104 x14 x16).f0) ((rd_T104 x14 x16).f1) ((rd_T104 x14 x16).f2) ((rd_T104 x14 x16).f3) ((rd_T104 x14 x16).f4) ((rd_T104 x14 x16).f5)).bind fun t412 => (impl_TermsFault.j1 k x0 x3 x16 1 x14 x15 x16 (!t412) ((rd_T104 x14 x16).f0) ((rd_T104 x14 x16).f1) ((rd_T104 x14 x16).f2) ((rd_T104 x14 x16).f3) ((rd_T104 x14 x16).f4) ((rd_T104 x14 x16).f5))) else (impl_TermsFault.j1 k x0 x3 x16 1 x14 x15 x16 true ((rd_T104 x14 x16).f0) ((rd_T104 x14 x16).f1) ((rd_T104 x14 x16).f2) ((rd_T104 x14 x16).f3) ((rd_T104 x14 x16).f4) ((rd_T104 x14 x16).f5)))) else (none)) else (none)) else (if 0 ≤ (wrap64 ((x0.length : Int) - 1)) then (if (wrap64 ((x0.length : Int) - 1)) < (x3.length : Int) then ((impl_Term.f x0).bind fun t408 => (if (rd x3 (wrap64 ((x0.length : Int) - 1))) = t408 then (some 0) else (some 1))) else (none)) else (none))
def impl_TermsFault.j1 : Nat → List (S104) → List Int → Int → Int → List (S104) → Int → Int → Bool → Int → Int → List Int → List (S100) → Int → Int → Option (Int)
 | 0, _, _, _, _, _, _, _, _, _, _, _, _, _, _ => none
 | k + 1, x0, x3, x6, x7, x14, x15, x16, x22, x411000, x411001, x411002, x411003, x411004, x411005 => if x22 = true then (some 1) else ((impl_Term_isNum.f k x411000 x411001 x411002 x411003 x411004 x411005).bind fun t413 => (if t413 = true then ((impl_Term_areCodes.f k x411000 x411001 x411002 x411003 x411004 x411005).bind fun t414 => (if t414 = true then (if x411000 = 8 then ((impl_RangesFault.f k x411003).bind fun t415 => (if t415 = 0 then (impl_TermsFault.j2 k x0 x3 x6 x7 x14 x15 x16 x411000 x411001 x411002 x411003 x411004 x411005) else (some t415))) else (impl_TermsFault.j2 k x0 x3 x6 x7 x14 x15 x16 x411000 x411001 x411002 x411003 x411004 x411005)) else (some 3))) else (some 3)))
def impl_TermsFault.j2 : Nat → List (S104) → List Int → Int → Int → List (S104) → Int → Int → Int → Int → List Int → List (S100) → Int → Int → Option (Int)
 | 0, _, _, _, _, _, _, _, _, _, _, _, _, _ => none
 | k + 1, x0, x3, x6, x7, x14, x15, x16, x411000, x411001, x411002, x411003, x411004, x411005 => if x411000 = 9 then (if x6 = 0 then (some 1) else (if x411004 = (wrap64 (x6 - 1)) then (if 0 ≤ (wrap64 (x6 - 1)) then (if (wrap64 (x6 - 1)) < (x3.length : Int) then (if x3.length < 17592186044416 then (impl_TermsFault.l0 k x0 (x3 ++ [wrap64 (x7 + (rd x3 (wrap64 (x6 - 1))))]) x14 x15 (wrap64 (x16 + 1))) else (none)) else (none)) else (none)) else (some 1))) else (if x411000 > 9 then (if x6 < 2 then (some 1) else (if x411005 = (wrap64 (x6 - 1)) then (if x411004 < 0 then (some 1) else (if 0 ≤ (wrap64 (x6 - 1)) then (if (wrap64 (x6 - 1)) < (x3.length : Int) then (if x411004 = (wrap64 ((wrap64 (x6 - 1)) - (rd x3 (wrap64 (x6 - 1))))) then (if 0 ≤ x411004 then (if x411004 < (x3.length : Int) then (if x3.length < 17592186044416 then (impl_TermsFault.l0 k x0 (x3 ++ [wrap64 (x7 + (wrap64 ((rd x3 (wrap64 (x6 - 1))) + (rd x3 x411004))))]) x14 x15 (wrap64 (x16 + 1))) else (none)) else (none)) else (none)) else (some 1)) else (none)) else (none))) else (some 1))) else (if x3.length < 17592186044416 then (impl_TermsFault.l0 k x0 (x3 ++ [x7]) x14 x15 (wrap64 (x16 + 1))) else (none)))
end
def impl_TermsFault.f (k : Nat) (l0 : List (S104)) : Option (Int) := (impl_Term.f l0).bind fun t402 => ((impl_within.f t402 1 12).bind fun t403 => (if t403 = true then (impl_TermsFault.l0 k l0 (([] : List Int)) l0 (l0.length : Int) 0) else (some 2)))
set_option maxHeartbeats 8000000 in
set_option maxRecDepth 100000 in
theorem impl_TermsFault.calls (k : Nat) (A0 : Option Addr) (c0 : Nat) (l0 : List (S104)) (r : Int) (w : World) (hr0 : Kd.C k104 w A0 l0.length l0) (hc0 : l0.length ≤ c0) (h : impl_TermsFault.f k l0 = some r) :
 Calls Try.prog 45 #[.slice A0 l0.length c0] w fun e w' => e = .returned (.int .i64 r) ∧ Below w.heap.size w w' := by
 have hu104 := Try.underlying104
 have HR0 := Aside0.mk hr0
 have HC0 := Aside0.mk hc0
 clear hr0 hc0
 have HB := Aside0.mk (Below.refl w.heap.size w)
 have H : ((impl_Term.f l0).bind fun t402 => ((impl_within.f t402 1 12).bind fun t403 => (if t403 = true then (impl_TermsFault.l0 k l0 (([] : List Int)) l0 (l0.length : Int) 0) else (some 2)))) = some r := h
 clear h
 replace H := Option.bind_eq_some_iff.mp H
 obtain ⟨t402, A20, H⟩ := H
 (try dsimp only at H)
 have A2 := Aside0.mk A20
 clear A20
 replace H := Option.bind_eq_some_iff.mp H
 obtain ⟨t403, A30, H⟩ := H
 (try dsimp only at H)
 have A3 := Aside0.mk A30
 clear A30
 by_cases c4 : t403 = true
 ·
  subst c4
  (try rw [if_pos rfl] at H)
  obtain ⟨y404, hy404⟩ : ∃ y_ : List Int, y_ = (([] : List Int)) := ⟨_, rfl⟩
  replace H : (impl_TermsFault.l0 k l0 y404 l0 (l0.length : Int) 0) = some r := by first | (rw [hy404]; with_reducible exact H) | (have H2_ := (Option.bind_some _ _).symm.trans H; rw [hy404]; with_reducible exact H2_) | (have H2_ := (Option.bind_some _ _).symm.trans H; with_reducible exact H2_) | with_reducible exact H | (rw [hy404]; exact H) | exact H
  have Ny404 := Aside0.mk hy404
  clear hy404
  have H' := Aside0.mk H
  clear H
  go_enter Try.func45, Try.ntmps45
  go_wp2_with (first | (go_at_call 91; (with_reducible refine (impl_Term.calls _ _ l0 t402 _ ?_ ?_ A2.out).mono ?_); exact C_up HR0.out; exact HC0.out; rintro e w' ⟨rfl, ⟨nd, rfl⟩⟩; (try first | exact ⟨rfl, _, World.drewN_drewN _ _ _⟩ | exact ⟨rfl, _, Eq.trans (World.drewN_drewN _ _ _) (congrArg (World.drewN _) (Nat.add_assoc _ _ _))⟩)) | (go_at_call 37; (with_reducible refine (impl_within.calls t402 1 12 true _ A3.out).mono ?_); rintro e w' ⟨rfl, ⟨nd, rfl⟩⟩; (try first | exact ⟨rfl, _, World.drewN_drewN _ _ _⟩ | exact ⟨rfl, _, Eq.trans (World.drewN_drewN _ _ _) (congrArg (World.drewN _) (Nat.add_assoc _ _ _))⟩)) | ((with_reducible refine gate_dst (N := 13) rfl ?_); refine Kd.R_lit (Kd.int .i64) _ 2 ?hg (N := 13) ?hd (xs := ([] : List Int)) (inner := []) (ok := fun _ => True) (okp := fun _ => True) ?hr ?hp (fun _ hk => hk) trivial (Below.refl _ _) (Nat.le_refl _) (by simp) ?_; (case hd => rfl); (case hg => rfl); (case hr => first | (go_simp; done) | (go_simp; rfl)); (case hp => exact (Reps.none _ _)); intro v405 w5 ho6 hb hg_ hnew_; clear hg_ hnew_; (first | rw [← Ny404.out] at ho6 | (simp only [Int.reduceToNat] at ho6; rw [← Ny404.out] at ho6)); have HO406 := Aside0.mk (Kd.R_lower ho6 (below_size hs_)); replace HB := Aside0.mk (below_step hs_ hb); clear hb ho6))
  repeat (go_quiet (first | (go_at_call 91; (with_reducible refine (impl_Term.calls _ _ l0 t402 _ ?_ ?_ A2.out).mono ?_); exact C_up HR0.out; exact HC0.out; rintro e w' ⟨rfl, ⟨nd, rfl⟩⟩; (try first | exact ⟨rfl, _, World.drewN_drewN _ _ _⟩ | exact ⟨rfl, _, Eq.trans (World.drewN_drewN _ _ _) (congrArg (World.drewN _) (Nat.add_assoc _ _ _))⟩)) | (go_at_call 37; (with_reducible refine (impl_within.calls t402 1 12 true _ A3.out).mono ?_); rintro e w' ⟨rfl, ⟨nd, rfl⟩⟩; (try first | exact ⟨rfl, _, World.drewN_drewN _ _ _⟩ | exact ⟨rfl, _, Eq.trans (World.drewN_drewN _ _ _) (congrArg (World.drewN _) (Nat.add_assoc _ _ _))⟩)) | ((with_reducible refine gate_dst (N := 13) rfl ?_); refine Kd.R_lit (Kd.int .i64) _ 2 ?hg (N := 13) ?hd (xs := ([] : List Int)) (inner := []) (ok := fun _ => True) (okp := fun _ => True) ?hr ?hp (fun _ hk => hk) trivial (Below.refl _ _) (Nat.le_refl _) (by simp) ?_; (case hd => rfl); (case hg => rfl); (case hr => first | (go_simp; done) | (go_simp; rfl)); (case hp => exact (Reps.none _ _)); intro v405 w5 ho6 hb hg_ hnew_; clear hg_ hnew_; (first | rw [← Ny404.out] at ho6 | (simp only [Int.reduceToNat] at ho6; rw [← Ny404.out] at ho6)); have HO406 := Aside0.mk (Kd.R_lower ho6 (below_size hs_)); replace HB := Aside0.mk (below_step hs_ hb); clear hb ho6)); try go_wp2_with (first | (go_at_call 91; (with_reducible refine (impl_Term.calls _ _ l0 t402 _ ?_ ?_ A2.out).mono ?_); exact C_up HR0.out; exact HC0.out; rintro e w' ⟨rfl, ⟨nd, rfl⟩⟩; (try first | exact ⟨rfl, _, World.drewN_drewN _ _ _⟩ | exact ⟨rfl, _, Eq.trans (World.drewN_drewN _ _ _) (congrArg (World.drewN _) (Nat.add_assoc _ _ _))⟩)) | (go_at_call 37; (with_reducible refine (impl_within.calls t402 1 12 true _ A3.out).mono ?_); rintro e w' ⟨rfl, ⟨nd, rfl⟩⟩; (try first | exact ⟨rfl, _, World.drewN_drewN _ _ _⟩ | exact ⟨rfl, _, Eq.trans (World.drewN_drewN _ _ _) (congrArg (World.drewN _) (Nat.add_assoc _ _ _))⟩)) | ((with_reducible refine gate_dst (N := 13) rfl ?_); refine Kd.R_lit (Kd.int .i64) _ 2 ?hg (N := 13) ?hd (xs := ([] : List Int)) (inner := []) (ok := fun _ => True) (okp := fun _ => True) ?hr ?hp (fun _ hk => hk) trivial (Below.refl _ _) (Nat.le_refl _) (by simp) ?_; (case hd => rfl); (case hg => rfl); (case hr => first | (go_simp; done) | (go_simp; rfl)); (case hp => exact (Reps.none _ _)); intro v405 w5 ho6 hb hg_ hnew_; clear hg_ hnew_; (first | rw [← Ny404.out] at ho6 | (simp only [Int.reduceToNat] at ho6; rw [← Ny404.out] at ho6)); have HO406 := Aside0.mk (Kd.R_lower ho6 (below_size hs_)); replace HB := Aside0.mk (below_step hs_ hb); clear hb ho6)))
  go_loopg [3, 16] k (fun kq v3 v16 w' => ∃ (x3_1 : List Int) (x16_1 : Int), v16 = .int .i64 x16_1 ∧ Aside0 (impl_TermsFault.l0 kq l0 x3_1 l0 (l0.length : Int) x16_1 = some r) ∧ Aside0 (kq ≤ k) ∧ Aside0 (Kd.R (Kd.int .i64) 2 w' w.heap.size (fun _ => True) v3 x3_1) ∧ Aside0 (Below w.heap.size w w'))
  case atStart => exact ⟨(y404), (0), vl_, H', ⟨Nat.le_refl _⟩, ⟨R_up HO406.out⟩, ⟨hb_⟩⟩
  case round =>
   clear H'
   try clear c4
   obtain ⟨x3_1, x16_1, rfl, HA, HK1, HO_3, HB⟩ := hrel
   cases gk with
   | zero => exact absurd HA.out (by simp [impl_TermsFault.l0])
   | succ k1 =>
     have H := HA.out
     clear HA
     simp only [impl_TermsFault.l0] at H
     by_cases c7 : x16_1 < (l0.length : Int)
     ·
      rw [if_pos c7] at H
      have c7b0 : decide (x16_1 < (l0.length : Int)) = true := decide_eq_true c7
      clear c7
      by_cases c8 : 0 ≤ x16_1
      case neg => rw [if_neg c8] at H; exact absurd H (by simp)
      rw [if_pos c8] at H
      have c8b0 : decide (0 ≤ x16_1) = true := decide_eq_true c8
      clear c8
      by_cases c9 : x16_1 < (l0.length : Int)
      case neg => rw [if_neg c9] at H; exact absurd H (by simp)
      rw [if_pos c9] at H
      have c9b0 : decide (x16_1 < (l0.length : Int)) = true := decide_eq_true c9
      clear c9
      have HC10 := Aside0.mk H
      clear H
      have p409 : 0 ≤ (x16_1 : Int) := od_
      have q409 : x16_1 < (l0.length : Int) := od_
      obtain ⟨ad409, A409_2, c409_2, A409_3, c409_3, e409, hx409_0, hx409_1, hx409_2, hx409_3, hx409_4, hx409_5, hl409_2, hi409_2, hl409_3, hi409_3⟩ := at_T104 HR0.out x16_1 p409 q409
      cases e409
      replace hx409_0 := ck_ HB.out hx409_0
      replace hx409_1 := ck_ HB.out hx409_1
      replace hx409_2 := ck_ HB.out hx409_2
      replace hx409_3 := ck_ HB.out hx409_3
      replace hx409_4 := ck_ HB.out hx409_4
      replace hx409_5 := ck_ HB.out hx409_5
      have HR409_2 := Aside0.mk hi409_2
      have HC409_2 := Aside0.mk hl409_2
      clear hi409_2 hl409_2
      have HR409_3 := Aside0.mk hi409_3
      have HC409_3 := Aside0.mk hl409_3
      clear hi409_3 hl409_3
      replace p409 := eq_true p409
      replace q409 := eq_true q409
      go_upto_region 8 with (first | ((with_reducible refine gate_dst (N := 5) rfl ?_); refine box_event ?hg (N := 5) ?hd (cs := #[.int .i64 0, .int .i64 0, .slice none 0 0, .slice none 0 0, .int .i64 0, .int .i64 0]) (t := 104) ?hr ?_; (case hd => rfl); (case hg => rfl); (case hr => first | (go_simp; done) | (go_simp; rfl)); intro gb410 hg w11 hbox hb; have n0_ := Aside0.mk (Kd.R_below (R_up HO_3.out) hb); have n1_ := Aside0.mk (below_step hs_ hb); have n2_ := Aside0.mk (hbox); have n3_ := Aside0.mk ((by rw [hg]; exact (below_size hs_) : w.heap.size ≤ gb410)); have n4_ := Aside0.mk ((by rw [hg]; exact (below_size hs_) : w.heap.size ≤ gb410)); clear HO_3; clear HB; have HO_3 := n0_; have HB := n1_; have BK410 := n2_; have GW410 := n3_; have GE410 := n4_; clear n0_ n1_ n2_ n3_ n4_; clear hb hbox hg; have hcz12_0 : w11.cell? ⟨gb410, 0, none⟩ = some (.int .i64 0) := (blk_cell BK410.out 0).trans rfl; have hcz12_1 : w11.cell? ⟨gb410, 1, none⟩ = some (.int .i64 0) := (blk_cell BK410.out 1).trans rfl; have hcz12_2 : w11.cell? ⟨gb410, 2, none⟩ = some (.slice none 0 0) := (blk_cell BK410.out 2).trans rfl; have hcz12_3 : w11.cell? ⟨gb410, 3, none⟩ = some (.slice none 0 0) := (blk_cell BK410.out 3).trans rfl; have hcz12_4 : w11.cell? ⟨gb410, 4, none⟩ = some (.int .i64 0) := (blk_cell BK410.out 4).trans rfl; have hcz12_5 : w11.cell? ⟨gb410, 5, none⟩ = some (.int .i64 0) := (blk_cell BK410.out 5).trans rfl; have hfz12_0 := blk_frozen BK410.out 0; have hfz12_1 := blk_frozen BK410.out 1; have hfz12_2 := blk_frozen BK410.out 2; have hfz12_3 := blk_frozen BK410.out 3; have hfz12_4 := blk_frozen BK410.out 4; have hfz12_5 := blk_frozen BK410.out 5))
      repeat (go_quiet (first | ((with_reducible refine gate_dst (N := 5) rfl ?_); refine box_event ?hg (N := 5) ?hd (cs := #[.int .i64 0, .int .i64 0, .slice none 0 0, .slice none 0 0, .int .i64 0, .int .i64 0]) (t := 104) ?hr ?_; (case hd => rfl); (case hg => rfl); (case hr => first | (go_simp; done) | (go_simp; rfl)); intro gb410 hg w11 hbox hb; have n0_ := Aside0.mk (Kd.R_below (R_up HO_3.out) hb); have n1_ := Aside0.mk (below_step hs_ hb); have n2_ := Aside0.mk (hbox); have n3_ := Aside0.mk ((by rw [hg]; exact (below_size hs_) : w.heap.size ≤ gb410)); have n4_ := Aside0.mk ((by rw [hg]; exact (below_size hs_) : w.heap.size ≤ gb410)); clear HO_3; clear HB; have HO_3 := n0_; have HB := n1_; have BK410 := n2_; have GW410 := n3_; have GE410 := n4_; clear n0_ n1_ n2_ n3_ n4_; clear hb hbox hg; have hcz12_0 : w11.cell? ⟨gb410, 0, none⟩ = some (.int .i64 0) := (blk_cell BK410.out 0).trans rfl; have hcz12_1 : w11.cell? ⟨gb410, 1, none⟩ = some (.int .i64 0) := (blk_cell BK410.out 1).trans rfl; have hcz12_2 : w11.cell? ⟨gb410, 2, none⟩ = some (.slice none 0 0) := (blk_cell BK410.out 2).trans rfl; have hcz12_3 : w11.cell? ⟨gb410, 3, none⟩ = some (.slice none 0 0) := (blk_cell BK410.out 3).trans rfl; have hcz12_4 : w11.cell? ⟨gb410, 4, none⟩ = some (.int .i64 0) := (blk_cell BK410.out 4).trans rfl; have hcz12_5 : w11.cell? ⟨gb410, 5, none⟩ = some (.int .i64 0) := (blk_cell BK410.out 5).trans rfl; have hfz12_0 := blk_frozen BK410.out 0; have hfz12_1 := blk_frozen BK410.out 1; have hfz12_2 := blk_frozen BK410.out 2; have hfz12_3 := blk_frozen BK410.out 3; have hfz12_4 := blk_frozen BK410.out 4; have hfz12_5 := blk_frozen BK410.out 5)); go_upto_region 8 with (first | ((with_reducible refine gate_dst (N := 5) rfl ?_); refine box_event ?hg (N := 5) ?hd (cs := #[.int .i64 0, .int .i64 0, .slice none 0 0, .slice none 0 0, .int .i64 0, .int .i64 0]) (t := 104) ?hr ?_; (case hd => rfl); (case hg => rfl); (case hr => first | (go_simp; done) | (go_simp; rfl)); intro gb410 hg w11 hbox hb; have n0_ := Aside0.mk (Kd.R_below (R_up HO_3.out) hb); have n1_ := Aside0.mk (below_step hs_ hb); have n2_ := Aside0.mk (hbox); have n3_ := Aside0.mk ((by rw [hg]; exact (below_size hs_) : w.heap.size ≤ gb410)); have n4_ := Aside0.mk ((by rw [hg]; exact (below_size hs_) : w.heap.size ≤ gb410)); clear HO_3; clear HB; have HO_3 := n0_; have HB := n1_; have BK410 := n2_; have GW410 := n3_; have GE410 := n4_; clear n0_ n1_ n2_ n3_ n4_; clear hb hbox hg; have hcz12_0 : w11.cell? ⟨gb410, 0, none⟩ = some (.int .i64 0) := (blk_cell BK410.out 0).trans rfl; have hcz12_1 : w11.cell? ⟨gb410, 1, none⟩ = some (.int .i64 0) := (blk_cell BK410.out 1).trans rfl; have hcz12_2 : w11.cell? ⟨gb410, 2, none⟩ = some (.slice none 0 0) := (blk_cell BK410.out 2).trans rfl; have hcz12_3 : w11.cell? ⟨gb410, 3, none⟩ = some (.slice none 0 0) := (blk_cell BK410.out 3).trans rfl; have hcz12_4 : w11.cell? ⟨gb410, 4, none⟩ = some (.int .i64 0) := (blk_cell BK410.out 4).trans rfl; have hcz12_5 : w11.cell? ⟨gb410, 5, none⟩ = some (.int .i64 0) := (blk_cell BK410.out 5).trans rfl; have hfz12_0 := blk_frozen BK410.out 0; have hfz12_1 := blk_frozen BK410.out 1; have hfz12_2 := blk_frozen BK410.out 2; have hfz12_3 := blk_frozen BK410.out 3; have hfz12_4 := blk_frozen BK410.out 4; have hfz12_5 := blk_frozen BK410.out 5)))
      (try simp only [Act.put, List.setIfInBounds_toArray, List.set_cons_zero, List.set_cons_succ])
      go_cut [22] (fun v22 wc => ∃ (kq : Nat) (x22_9 : Bool), v22 = .bool x22_9 ∧ Aside0 (impl_TermsFault.j1 kq l0 x3_1 x16_1 1 l0 (l0.length : Int) x16_1 x22_9 ((rd_T104 l0 x16_1).f0) ((rd_T104 l0 x16_1).f1) ((rd_T104 l0 x16_1).f2) ((rd_T104 l0 x16_1).f3) ((rd_T104 l0 x16_1).f4) ((rd_T104 l0 x16_1).f5) = some r) ∧ Aside0 (kq ≤ k1) ∧ Aside0 (Kd.R (Kd.int .i64) 2 wc w.heap.size (fun _ => True) u3 x3_1) ∧ Aside0 (wc.heap[gb410]? = some (.cells #[.int .i64 ((rd_T104 l0 x16_1).f0), .int .i64 ((rd_T104 l0 x16_1).f1), (.slice A409_2 ((rd_T104 l0 x16_1).f2).length c409_2), (.slice A409_3 ((rd_T104 l0 x16_1).f3).length c409_3), .int .i64 ((rd_T104 l0 x16_1).f4), .int .i64 ((rd_T104 l0 x16_1).f5)] 104 (0, 0))) ∧ Aside0 (Below w.heap.size w wc))
      case first =>
       have H := HC10.out
       clear HC10
       replace H := Option.bind_eq_some_iff.mp H
       obtain ⟨t411, A130, H⟩ := H
       (try dsimp only at H)
       have A13 := Aside0.mk A130
       clear A130
       by_cases c14 : t411 = true
       ·
        subst c14
        (try rw [if_pos rfl] at H)
        replace H := Option.bind_eq_some_iff.mp H
        obtain ⟨t412, A150, H⟩ := H
        (try dsimp only at H)
        have A15 := Aside0.mk A150
        clear A150
        have H' := Aside0.mk H
        clear H
        have hcz16_0 : w11.cell? ⟨gb410, 0, none⟩ = some (.int .i64 0) := (blk_cell BK410.out 0).trans rfl
        have hcz16_1 : w11.cell? ⟨gb410, 1, none⟩ = some (.int .i64 0) := (blk_cell BK410.out 1).trans rfl
        have hcz16_2 : w11.cell? ⟨gb410, 2, none⟩ = some (.slice none 0 0) := (blk_cell BK410.out 2).trans rfl
        have hcz16_3 : w11.cell? ⟨gb410, 3, none⟩ = some (.slice none 0 0) := (blk_cell BK410.out 3).trans rfl
        have hcz16_4 : w11.cell? ⟨gb410, 4, none⟩ = some (.int .i64 0) := (blk_cell BK410.out 4).trans rfl
        have hcz16_5 : w11.cell? ⟨gb410, 5, none⟩ = some (.int .i64 0) := (blk_cell BK410.out 5).trans rfl
        have hfz16_0 := blk_frozen BK410.out 0
        have hfz16_1 := blk_frozen BK410.out 1
        have hfz16_2 := blk_frozen BK410.out 2
        have hfz16_3 := blk_frozen BK410.out 3
        have hfz16_4 := blk_frozen BK410.out 4
        have hfz16_5 := blk_frozen BK410.out 5
        go_wp2_with (first | (go_at_call 37; (with_reducible refine (impl_within.calls ((rd_T104 l0 x16_1).f0) 1 11 true _ A13.out).mono ?_); rintro e w' ⟨rfl, ⟨nd, rfl⟩⟩; (try first | exact ⟨rfl, _, World.drewN_drewN _ _ _⟩ | exact ⟨rfl, _, Eq.trans (World.drewN_drewN _ _ _) (congrArg (World.drewN _) (Nat.add_assoc _ _ _))⟩)) | (go_at_call 92; (with_reducible refine (impl_Term_isOnly.calls ((rd_T104 l0 x16_1).f0) ((rd_T104 l0 x16_1).f1) _ _ ((rd_T104 l0 x16_1).f2) _ _ ((rd_T104 l0 x16_1).f3) ((rd_T104 l0 x16_1).f4) ((rd_T104 l0 x16_1).f5) t412 _ ?_ ?_ ?_ ?_ A15.out).mono ?_); exact Kd.C_below HR409_2.out hs_; exact HC409_2.out; exact Kd.C_below HR409_3.out hs_; exact HC409_3.out; rintro e w17 ⟨rfl, hb⟩; replace HO_3 := Aside0.mk (Kd.R_below (by (with_reducible repeat (first | apply Kd.R_alloc | apply Kd.R_drewN | apply Kd.R_drew)); exact (Kd.R_mono (Kd.R_far (p := ⟨gb410, 5, none⟩) (Kd.R_far (p := ⟨gb410, 4, none⟩) (Kd.R_far (p := ⟨gb410, 3, none⟩) (Kd.R_far (p := ⟨gb410, 2, none⟩) (Kd.R_far (p := ⟨gb410, 1, none⟩) (Kd.R_far (p := ⟨gb410, 0, none⟩) (Kd.R_types HO_3.out BK410.out (by decide)) (fun _ hk => hk.2) (.int .i64 ((rd_T104 l0 x16_1).f0))) (fun _ hk => hk.2) (.int .i64 ((rd_T104 l0 x16_1).f1))) (fun _ hk => hk.2) (.slice A409_2 ((rd_T104 l0 x16_1).f2).length c409_2)) (fun _ hk => hk.2) (.slice A409_3 ((rd_T104 l0 x16_1).f3).length c409_3)) (fun _ hk => hk.2) (.int .i64 ((rd_T104 l0 x16_1).f4))) (fun _ hk => hk.2) (.int .i64 ((rd_T104 l0 x16_1).f5))) (fun _ h_ => h_.1))) hb); replace BK410 := Aside0.mk (blk_below (g := gb410) (o := .cells #[.int .i64 ((rd_T104 l0 x16_1).f0), .int .i64 ((rd_T104 l0 x16_1).f1), .slice A409_2 ((rd_T104 l0 x16_1).f2).length c409_2, .slice A409_3 ((rd_T104 l0 x16_1).f3).length c409_3, .int .i64 ((rd_T104 l0 x16_1).f4), .int .i64 ((rd_T104 l0 x16_1).f5)] 104 (0, 0)) (by (with_reducible repeat (first | refine blk_drewN ?_ _ | refine blk_drew ?_ | refine blk_alloc ?_ _)); refine blk_put (cs := #[.int .i64 ((rd_T104 l0 x16_1).f0), .int .i64 ((rd_T104 l0 x16_1).f1), .slice A409_2 ((rd_T104 l0 x16_1).f2).length c409_2, .slice A409_3 ((rd_T104 l0 x16_1).f3).length c409_3, .int .i64 ((rd_T104 l0 x16_1).f4), .int .i64 0]) ?_ 5 _ rfl; (with_reducible repeat (first | refine blk_drewN ?_ _ | refine blk_drew ?_ | refine blk_alloc ?_ _)); refine blk_put (cs := #[.int .i64 ((rd_T104 l0 x16_1).f0), .int .i64 ((rd_T104 l0 x16_1).f1), .slice A409_2 ((rd_T104 l0 x16_1).f2).length c409_2, .slice A409_3 ((rd_T104 l0 x16_1).f3).length c409_3, .int .i64 0, .int .i64 0]) ?_ 4 _ rfl; (with_reducible repeat (first | refine blk_drewN ?_ _ | refine blk_drew ?_ | refine blk_alloc ?_ _)); refine blk_put (cs := #[.int .i64 ((rd_T104 l0 x16_1).f0), .int .i64 ((rd_T104 l0 x16_1).f1), .slice A409_2 ((rd_T104 l0 x16_1).f2).length c409_2, .slice none 0 0, .int .i64 0, .int .i64 0]) ?_ 3 _ rfl; (with_reducible repeat (first | refine blk_drewN ?_ _ | refine blk_drew ?_ | refine blk_alloc ?_ _)); refine blk_put (cs := #[.int .i64 ((rd_T104 l0 x16_1).f0), .int .i64 ((rd_T104 l0 x16_1).f1), .slice none 0 0, .slice none 0 0, .int .i64 0, .int .i64 0]) ?_ 2 _ rfl; (with_reducible repeat (first | refine blk_drewN ?_ _ | refine blk_drew ?_ | refine blk_alloc ?_ _)); refine blk_put (cs := #[.int .i64 ((rd_T104 l0 x16_1).f0), .int .i64 0, .slice none 0 0, .slice none 0 0, .int .i64 0, .int .i64 0]) ?_ 1 _ rfl; (with_reducible repeat (first | refine blk_drewN ?_ _ | refine blk_drew ?_ | refine blk_alloc ?_ _)); refine blk_put (cs := #[.int .i64 0, .int .i64 0, .slice none 0 0, .slice none 0 0, .int .i64 0, .int .i64 0]) ?_ 0 _ rfl; (with_reducible repeat (first | refine blk_drewN ?_ _ | refine blk_drew ?_ | refine blk_alloc ?_ _)); exact BK410.out) hb); replace HB := Aside0.mk (below_step hs_ hb); (try clear hb)))
        repeat (go_quiet (first | (go_at_call 37; (with_reducible refine (impl_within.calls ((rd_T104 l0 x16_1).f0) 1 11 true _ A13.out).mono ?_); rintro e w' ⟨rfl, ⟨nd, rfl⟩⟩; (try first | exact ⟨rfl, _, World.drewN_drewN _ _ _⟩ | exact ⟨rfl, _, Eq.trans (World.drewN_drewN _ _ _) (congrArg (World.drewN _) (Nat.add_assoc _ _ _))⟩)) | (go_at_call 92; (with_reducible refine (impl_Term_isOnly.calls ((rd_T104 l0 x16_1).f0) ((rd_T104 l0 x16_1).f1) _ _ ((rd_T104 l0 x16_1).f2) _ _ ((rd_T104 l0 x16_1).f3) ((rd_T104 l0 x16_1).f4) ((rd_T104 l0 x16_1).f5) t412 _ ?_ ?_ ?_ ?_ A15.out).mono ?_); exact Kd.C_below HR409_2.out hs_; exact HC409_2.out; exact Kd.C_below HR409_3.out hs_; exact HC409_3.out; rintro e w17 ⟨rfl, hb⟩; replace HO_3 := Aside0.mk (Kd.R_below (by (with_reducible repeat (first | apply Kd.R_alloc | apply Kd.R_drewN | apply Kd.R_drew)); exact (Kd.R_mono (Kd.R_far (p := ⟨gb410, 5, none⟩) (Kd.R_far (p := ⟨gb410, 4, none⟩) (Kd.R_far (p := ⟨gb410, 3, none⟩) (Kd.R_far (p := ⟨gb410, 2, none⟩) (Kd.R_far (p := ⟨gb410, 1, none⟩) (Kd.R_far (p := ⟨gb410, 0, none⟩) (Kd.R_types HO_3.out BK410.out (by decide)) (fun _ hk => hk.2) (.int .i64 ((rd_T104 l0 x16_1).f0))) (fun _ hk => hk.2) (.int .i64 ((rd_T104 l0 x16_1).f1))) (fun _ hk => hk.2) (.slice A409_2 ((rd_T104 l0 x16_1).f2).length c409_2)) (fun _ hk => hk.2) (.slice A409_3 ((rd_T104 l0 x16_1).f3).length c409_3)) (fun _ hk => hk.2) (.int .i64 ((rd_T104 l0 x16_1).f4))) (fun _ hk => hk.2) (.int .i64 ((rd_T104 l0 x16_1).f5))) (fun _ h_ => h_.1))) hb); replace BK410 := Aside0.mk (blk_below (g := gb410) (o := .cells #[.int .i64 ((rd_T104 l0 x16_1).f0), .int .i64 ((rd_T104 l0 x16_1).f1), .slice A409_2 ((rd_T104 l0 x16_1).f2).length c409_2, .slice A409_3 ((rd_T104 l0 x16_1).f3).length c409_3, .int .i64 ((rd_T104 l0 x16_1).f4), .int .i64 ((rd_T104 l0 x16_1).f5)] 104 (0, 0)) (by (with_reducible repeat (first | refine blk_drewN ?_ _ | refine blk_drew ?_ | refine blk_alloc ?_ _)); refine blk_put (cs := #[.int .i64 ((rd_T104 l0 x16_1).f0), .int .i64 ((rd_T104 l0 x16_1).f1), .slice A409_2 ((rd_T104 l0 x16_1).f2).length c409_2, .slice A409_3 ((rd_T104 l0 x16_1).f3).length c409_3, .int .i64 ((rd_T104 l0 x16_1).f4), .int .i64 0]) ?_ 5 _ rfl; (with_reducible repeat (first | refine blk_drewN ?_ _ | refine blk_drew ?_ | refine blk_alloc ?_ _)); refine blk_put (cs := #[.int .i64 ((rd_T104 l0 x16_1).f0), .int .i64 ((rd_T104 l0 x16_1).f1), .slice A409_2 ((rd_T104 l0 x16_1).f2).length c409_2, .slice A409_3 ((rd_T104 l0 x16_1).f3).length c409_3, .int .i64 0, .int .i64 0]) ?_ 4 _ rfl; (with_reducible repeat (first | refine blk_drewN ?_ _ | refine blk_drew ?_ | refine blk_alloc ?_ _)); refine blk_put (cs := #[.int .i64 ((rd_T104 l0 x16_1).f0), .int .i64 ((rd_T104 l0 x16_1).f1), .slice A409_2 ((rd_T104 l0 x16_1).f2).length c409_2, .slice none 0 0, .int .i64 0, .int .i64 0]) ?_ 3 _ rfl; (with_reducible repeat (first | refine blk_drewN ?_ _ | refine blk_drew ?_ | refine blk_alloc ?_ _)); refine blk_put (cs := #[.int .i64 ((rd_T104 l0 x16_1).f0), .int .i64 ((rd_T104 l0 x16_1).f1), .slice none 0 0, .slice none 0 0, .int .i64 0, .int .i64 0]) ?_ 2 _ rfl; (with_reducible repeat (first | refine blk_drewN ?_ _ | refine blk_drew ?_ | refine blk_alloc ?_ _)); refine blk_put (cs := #[.int .i64 ((rd_T104 l0 x16_1).f0), .int .i64 0, .slice none 0 0, .slice none 0 0, .int .i64 0, .int .i64 0]) ?_ 1 _ rfl; (with_reducible repeat (first | refine blk_drewN ?_ _ | refine blk_drew ?_ | refine blk_alloc ?_ _)); refine blk_put (cs := #[.int .i64 0, .int .i64 0, .slice none 0 0, .slice none 0 0, .int .i64 0, .int .i64 0]) ?_ 0 _ rfl; (with_reducible repeat (first | refine blk_drewN ?_ _ | refine blk_drew ?_ | refine blk_alloc ?_ _)); exact BK410.out) hb); replace HB := Aside0.mk (below_step hs_ hb); (try clear hb))); try go_wp2_with (first | (go_at_call 37; (with_reducible refine (impl_within.calls ((rd_T104 l0 x16_1).f0) 1 11 true _ A13.out).mono ?_); rintro e w' ⟨rfl, ⟨nd, rfl⟩⟩; (try first | exact ⟨rfl, _, World.drewN_drewN _ _ _⟩ | exact ⟨rfl, _, Eq.trans (World.drewN_drewN _ _ _) (congrArg (World.drewN _) (Nat.add_assoc _ _ _))⟩)) | (go_at_call 92; (with_reducible refine (impl_Term_isOnly.calls ((rd_T104 l0 x16_1).f0) ((rd_T104 l0 x16_1).f1) _ _ ((rd_T104 l0 x16_1).f2) _ _ ((rd_T104 l0 x16_1).f3) ((rd_T104 l0 x16_1).f4) ((rd_T104 l0 x16_1).f5) t412 _ ?_ ?_ ?_ ?_ A15.out).mono ?_); exact Kd.C_below HR409_2.out hs_; exact HC409_2.out; exact Kd.C_below HR409_3.out hs_; exact HC409_3.out; rintro e w17 ⟨rfl, hb⟩; replace HO_3 := Aside0.mk (Kd.R_below (by (with_reducible repeat (first | apply Kd.R_alloc | apply Kd.R_drewN | apply Kd.R_drew)); exact (Kd.R_mono (Kd.R_far (p := ⟨gb410, 5, none⟩) (Kd.R_far (p := ⟨gb410, 4, none⟩) (Kd.R_far (p := ⟨gb410, 3, none⟩) (Kd.R_far (p := ⟨gb410, 2, none⟩) (Kd.R_far (p := ⟨gb410, 1, none⟩) (Kd.R_far (p := ⟨gb410, 0, none⟩) (Kd.R_types HO_3.out BK410.out (by decide)) (fun _ hk => hk.2) (.int .i64 ((rd_T104 l0 x16_1).f0))) (fun _ hk => hk.2) (.int .i64 ((rd_T104 l0 x16_1).f1))) (fun _ hk => hk.2) (.slice A409_2 ((rd_T104 l0 x16_1).f2).length c409_2)) (fun _ hk => hk.2) (.slice A409_3 ((rd_T104 l0 x16_1).f3).length c409_3)) (fun _ hk => hk.2) (.int .i64 ((rd_T104 l0 x16_1).f4))) (fun _ hk => hk.2) (.int .i64 ((rd_T104 l0 x16_1).f5))) (fun _ h_ => h_.1))) hb); replace BK410 := Aside0.mk (blk_below (g := gb410) (o := .cells #[.int .i64 ((rd_T104 l0 x16_1).f0), .int .i64 ((rd_T104 l0 x16_1).f1), .slice A409_2 ((rd_T104 l0 x16_1).f2).length c409_2, .slice A409_3 ((rd_T104 l0 x16_1).f3).length c409_3, .int .i64 ((rd_T104 l0 x16_1).f4), .int .i64 ((rd_T104 l0 x16_1).f5)] 104 (0, 0)) (by (with_reducible repeat (first | refine blk_drewN ?_ _ | refine blk_drew ?_ | refine blk_alloc ?_ _)); refine blk_put (cs := #[.int .i64 ((rd_T104 l0 x16_1).f0), .int .i64 ((rd_T104 l0 x16_1).f1), .slice A409_2 ((rd_T104 l0 x16_1).f2).length c409_2, .slice A409_3 ((rd_T104 l0 x16_1).f3).length c409_3, .int .i64 ((rd_T104 l0 x16_1).f4), .int .i64 0]) ?_ 5 _ rfl; (with_reducible repeat (first | refine blk_drewN ?_ _ | refine blk_drew ?_ | refine blk_alloc ?_ _)); refine blk_put (cs := #[.int .i64 ((rd_T104 l0 x16_1).f0), .int .i64 ((rd_T104 l0 x16_1).f1), .slice A409_2 ((rd_T104 l0 x16_1).f2).length c409_2, .slice A409_3 ((rd_T104 l0 x16_1).f3).length c409_3, .int .i64 0, .int .i64 0]) ?_ 4 _ rfl; (with_reducible repeat (first | refine blk_drewN ?_ _ | refine blk_drew ?_ | refine blk_alloc ?_ _)); refine blk_put (cs := #[.int .i64 ((rd_T104 l0 x16_1).f0), .int .i64 ((rd_T104 l0 x16_1).f1), .slice A409_2 ((rd_T104 l0 x16_1).f2).length c409_2, .slice none 0 0, .int .i64 0, .int .i64 0]) ?_ 3 _ rfl; (with_reducible repeat (first | refine blk_drewN ?_ _ | refine blk_drew ?_ | refine blk_alloc ?_ _)); refine blk_put (cs := #[.int .i64 ((rd_T104 l0 x16_1).f0), .int .i64 ((rd_T104 l0 x16_1).f1), .slice none 0 0, .slice none 0 0, .int .i64 0, .int .i64 0]) ?_ 2 _ rfl; (with_reducible repeat (first | refine blk_drewN ?_ _ | refine blk_drew ?_ | refine blk_alloc ?_ _)); refine blk_put (cs := #[.int .i64 ((rd_T104 l0 x16_1).f0), .int .i64 0, .slice none 0 0, .slice none 0 0, .int .i64 0, .int .i64 0]) ?_ 1 _ rfl; (with_reducible repeat (first | refine blk_drewN ?_ _ | refine blk_drew ?_ | refine blk_alloc ?_ _)); refine blk_put (cs := #[.int .i64 0, .int .i64 0, .slice none 0 0, .slice none 0 0, .int .i64 0, .int .i64 0]) ?_ 0 _ rfl; (with_reducible repeat (first | refine blk_drewN ?_ _ | refine blk_drew ?_ | refine blk_alloc ?_ _)); exact BK410.out) hb); replace HB := Aside0.mk (below_step hs_ hb); (try clear hb))))
        go_meet
        case rel => exact ⟨_, (!t412), vl_, H', ⟨by have := HK1.out; first | omega | exact Nat.le_refl _⟩, ⟨R_up HO_3.out⟩, ⟨blk_up BK410.out⟩, ⟨hs_⟩⟩
       ·
        replace c14 := Bool.eq_false_iff.mpr c14
        subst c14
        (try rw [if_neg (show ¬ (false = true) by decide)] at H)
        have H' := Aside0.mk H
        clear H
        have hcz18_0 : w11.cell? ⟨gb410, 0, none⟩ = some (.int .i64 0) := (blk_cell BK410.out 0).trans rfl
        have hcz18_1 : w11.cell? ⟨gb410, 1, none⟩ = some (.int .i64 0) := (blk_cell BK410.out 1).trans rfl
        have hcz18_2 : w11.cell? ⟨gb410, 2, none⟩ = some (.slice none 0 0) := (blk_cell BK410.out 2).trans rfl
        have hcz18_3 : w11.cell? ⟨gb410, 3, none⟩ = some (.slice none 0 0) := (blk_cell BK410.out 3).trans rfl
        have hcz18_4 : w11.cell? ⟨gb410, 4, none⟩ = some (.int .i64 0) := (blk_cell BK410.out 4).trans rfl
        have hcz18_5 : w11.cell? ⟨gb410, 5, none⟩ = some (.int .i64 0) := (blk_cell BK410.out 5).trans rfl
        have hfz18_0 := blk_frozen BK410.out 0
        have hfz18_1 := blk_frozen BK410.out 1
        have hfz18_2 := blk_frozen BK410.out 2
        have hfz18_3 := blk_frozen BK410.out 3
        have hfz18_4 := blk_frozen BK410.out 4
        have hfz18_5 := blk_frozen BK410.out 5
        go_wp2_with (first | (go_at_call 37; (with_reducible refine (impl_within.calls ((rd_T104 l0 x16_1).f0) 1 11 false _ A13.out).mono ?_); rintro e w' ⟨rfl, ⟨nd, rfl⟩⟩; (try first | exact ⟨rfl, _, World.drewN_drewN _ _ _⟩ | exact ⟨rfl, _, Eq.trans (World.drewN_drewN _ _ _) (congrArg (World.drewN _) (Nat.add_assoc _ _ _))⟩)))
        repeat (go_quiet (first | (go_at_call 37; (with_reducible refine (impl_within.calls ((rd_T104 l0 x16_1).f0) 1 11 false _ A13.out).mono ?_); rintro e w' ⟨rfl, ⟨nd, rfl⟩⟩; (try first | exact ⟨rfl, _, World.drewN_drewN _ _ _⟩ | exact ⟨rfl, _, Eq.trans (World.drewN_drewN _ _ _) (congrArg (World.drewN _) (Nat.add_assoc _ _ _))⟩))); try go_wp2_with (first | (go_at_call 37; (with_reducible refine (impl_within.calls ((rd_T104 l0 x16_1).f0) 1 11 false _ A13.out).mono ?_); rintro e w' ⟨rfl, ⟨nd, rfl⟩⟩; (try first | exact ⟨rfl, _, World.drewN_drewN _ _ _⟩ | exact ⟨rfl, _, Eq.trans (World.drewN_drewN _ _ _) (congrArg (World.drewN _) (Nat.add_assoc _ _ _))⟩))))
        go_meet
        case rel => exact ⟨_, (true), vl_, H', ⟨by have := HK1.out; first | omega | exact Nat.le_refl _⟩, ⟨by (with_reducible repeat (first | apply Kd.R_alloc | apply Kd.R_drewN | apply Kd.R_drew)); exact Kd.R_mono (Kd.R_far (p := ⟨gb410, 5, none⟩) (Kd.R_far (p := ⟨gb410, 4, none⟩) (Kd.R_far (p := ⟨gb410, 3, none⟩) (Kd.R_far (p := ⟨gb410, 2, none⟩) (Kd.R_far (p := ⟨gb410, 1, none⟩) (Kd.R_far (p := ⟨gb410, 0, none⟩) (Kd.R_types HO_3.out BK410.out (by decide)) (fun _ hk => hk.2) (.int .i64 ((rd_T104 l0 x16_1).f0))) (fun _ hk => hk.2) (.int .i64 ((rd_T104 l0 x16_1).f1))) (fun _ hk => hk.2) (.slice A409_2 ((rd_T104 l0 x16_1).f2).length c409_2)) (fun _ hk => hk.2) (.slice A409_3 ((rd_T104 l0 x16_1).f3).length c409_3)) (fun _ hk => hk.2) (.int .i64 ((rd_T104 l0 x16_1).f4))) (fun _ hk => hk.2) (.int .i64 ((rd_T104 l0 x16_1).f5))) (fun _ hk => trivial)⟩, ⟨by (with_reducible repeat (first | refine blk_drewN ?_ _ | refine blk_drew ?_ | refine blk_alloc ?_ _)); refine blk_put (cs := #[.int .i64 ((rd_T104 l0 x16_1).f0), .int .i64 ((rd_T104 l0 x16_1).f1), .slice A409_2 ((rd_T104 l0 x16_1).f2).length c409_2, .slice A409_3 ((rd_T104 l0 x16_1).f3).length c409_3, .int .i64 ((rd_T104 l0 x16_1).f4), .int .i64 0]) ?_ 5 _ rfl; (with_reducible repeat (first | refine blk_drewN ?_ _ | refine blk_drew ?_ | refine blk_alloc ?_ _)); refine blk_put (cs := #[.int .i64 ((rd_T104 l0 x16_1).f0), .int .i64 ((rd_T104 l0 x16_1).f1), .slice A409_2 ((rd_T104 l0 x16_1).f2).length c409_2, .slice A409_3 ((rd_T104 l0 x16_1).f3).length c409_3, .int .i64 0, .int .i64 0]) ?_ 4 _ rfl; (with_reducible repeat (first | refine blk_drewN ?_ _ | refine blk_drew ?_ | refine blk_alloc ?_ _)); refine blk_put (cs := #[.int .i64 ((rd_T104 l0 x16_1).f0), .int .i64 ((rd_T104 l0 x16_1).f1), .slice A409_2 ((rd_T104 l0 x16_1).f2).length c409_2, .slice none 0 0, .int .i64 0, .int .i64 0]) ?_ 3 _ rfl; (with_reducible repeat (first | refine blk_drewN ?_ _ | refine blk_drew ?_ | refine blk_alloc ?_ _)); refine blk_put (cs := #[.int .i64 ((rd_T104 l0 x16_1).f0), .int .i64 ((rd_T104 l0 x16_1).f1), .slice none 0 0, .slice none 0 0, .int .i64 0, .int .i64 0]) ?_ 2 _ rfl; (with_reducible repeat (first | refine blk_drewN ?_ _ | refine blk_drew ?_ | refine blk_alloc ?_ _)); refine blk_put (cs := #[.int .i64 ((rd_T104 l0 x16_1).f0), .int .i64 0, .slice none 0 0, .slice none 0 0, .int .i64 0, .int .i64 0]) ?_ 1 _ rfl; (with_reducible repeat (first | refine blk_drewN ?_ _ | refine blk_drew ?_ | refine blk_alloc ?_ _)); refine blk_put (cs := #[.int .i64 0, .int .i64 0, .slice none 0 0, .slice none 0 0, .int .i64 0, .int .i64 0]) ?_ 0 _ rfl; (with_reducible repeat (first | refine blk_drewN ?_ _ | refine blk_drew ?_ | refine blk_alloc ?_ _)); exact BK410.out⟩, ⟨hs_⟩⟩
      case rest =>
       clear HC10
       try clear c4
       try clear q4
       try clear hx4
       try clear c7
       try clear c7b0
       try clear c8
       try clear c8b0
       try clear c9
       try clear c9b0
       try clear hcz12_0
       try clear hcz12_1
       try clear hcz12_2
       try clear hcz12_3
       try clear hcz12_4
       try clear hcz12_5
       try clear hfz12_0
       try clear hfz12_1
       try clear hfz12_2
       try clear hfz12_3
       try clear hfz12_4
       try clear hfz12_5
       try clear hx409_0
       try clear hx409_1
       try clear hx409_2
       try clear hx409_3
       try clear hx409_4
       try clear hx409_5
       try clear p409
       try clear q409
       obtain ⟨kq, x22_9, rfl, HA, HJ9, HO_3, BK410, HB⟩ := hcut
       cases kq with
       | zero => exact absurd HA.out (by simp [impl_TermsFault.j1])
       | succ kj9 =>
         have H := HA.out
         clear HA
         simp only [impl_TermsFault.j1] at H
         by_cases c19 : x22_9 = true
         ·
          subst c19
          (try rw [if_pos rfl] at H)
          obtain rfl := Option.some.inj H
          go_wp2
          repeat (go_quiet (fail); try go_wp2)
          go_ret
          exact ⟨ve_, hs_⟩
         ·
          replace c19 := Bool.eq_false_iff.mpr c19
          subst c19
          (try rw [if_neg (show ¬ (false = true) by decide)] at H)
          replace H := Option.bind_eq_some_iff.mp H
          obtain ⟨t413, A200, H⟩ := H
          (try dsimp only at H)
          have A20 := Aside0.mk A200
          clear A200
          by_cases c21 : t413 = true
          ·
           subst c21
           (try rw [if_pos rfl] at H)
           replace H := Option.bind_eq_some_iff.mp H
           obtain ⟨t414, A220, H⟩ := H
           (try dsimp only at H)
           have A22 := Aside0.mk A220
           clear A220
           by_cases c23 : t414 = true
           ·
            subst c23
            (try rw [if_pos rfl] at H)
            have HC24 := Aside0.mk H
            clear H
            have hcz25_0 : wc.cell? ⟨gb410, 0, none⟩ = some (.int .i64 ((rd_T104 l0 x16_1).f0)) := (blk_cell BK410.out 0).trans rfl
            have hcz25_1 : wc.cell? ⟨gb410, 1, none⟩ = some (.int .i64 ((rd_T104 l0 x16_1).f1)) := (blk_cell BK410.out 1).trans rfl
            have hcz25_2 : wc.cell? ⟨gb410, 2, none⟩ = some (.slice A409_2 ((rd_T104 l0 x16_1).f2).length c409_2) := (blk_cell BK410.out 2).trans rfl
            have hcz25_3 : wc.cell? ⟨gb410, 3, none⟩ = some (.slice A409_3 ((rd_T104 l0 x16_1).f3).length c409_3) := (blk_cell BK410.out 3).trans rfl
            have hcz25_4 : wc.cell? ⟨gb410, 4, none⟩ = some (.int .i64 ((rd_T104 l0 x16_1).f4)) := (blk_cell BK410.out 4).trans rfl
            have hcz25_5 : wc.cell? ⟨gb410, 5, none⟩ = some (.int .i64 ((rd_T104 l0 x16_1).f5)) := (blk_cell BK410.out 5).trans rfl
            have hfz25_0 := blk_frozen BK410.out 0
            have hfz25_1 := blk_frozen BK410.out 1
            have hfz25_2 := blk_frozen BK410.out 2
            have hfz25_3 := blk_frozen BK410.out 3
            have hfz25_4 := blk_frozen BK410.out 4
            have hfz25_5 := blk_frozen BK410.out 5
            go_upto_if 43 with (first | (go_at_call 93; (with_reducible refine (impl_Term_isNum.calls kj9 ((rd_T104 l0 x16_1).f0) ((rd_T104 l0 x16_1).f1) _ _ ((rd_T104 l0 x16_1).f2) _ _ ((rd_T104 l0 x16_1).f3) ((rd_T104 l0 x16_1).f4) ((rd_T104 l0 x16_1).f5) true _ ?_ ?_ ?_ ?_ A20.out).mono ?_); exact C_up (Kd.C_below HR409_2.out HB.out); exact HC409_2.out; exact C_up (Kd.C_below HR409_3.out HB.out); exact HC409_3.out; rintro e w26 ⟨rfl, hb⟩; replace HO_3 := Aside0.mk (Kd.R_below (R_up HO_3.out) hb); replace BK410 := Aside0.mk (blk_below (g := gb410) (blk_up BK410.out) hb); replace HB := Aside0.mk (below_step hs_ hb); (try clear hb); have hcz27_0 : w26.cell? ⟨gb410, 0, none⟩ = some (.int .i64 ((rd_T104 l0 x16_1).f0)) := (blk_cell BK410.out 0).trans rfl; have hcz27_1 : w26.cell? ⟨gb410, 1, none⟩ = some (.int .i64 ((rd_T104 l0 x16_1).f1)) := (blk_cell BK410.out 1).trans rfl; have hcz27_2 : w26.cell? ⟨gb410, 2, none⟩ = some (.slice A409_2 ((rd_T104 l0 x16_1).f2).length c409_2) := (blk_cell BK410.out 2).trans rfl; have hcz27_3 : w26.cell? ⟨gb410, 3, none⟩ = some (.slice A409_3 ((rd_T104 l0 x16_1).f3).length c409_3) := (blk_cell BK410.out 3).trans rfl; have hcz27_4 : w26.cell? ⟨gb410, 4, none⟩ = some (.int .i64 ((rd_T104 l0 x16_1).f4)) := (blk_cell BK410.out 4).trans rfl; have hcz27_5 : w26.cell? ⟨gb410, 5, none⟩ = some (.int .i64 ((rd_T104 l0 x16_1).f5)) := (blk_cell BK410.out 5).trans rfl; have hfz27_0 := blk_frozen BK410.out 0; have hfz27_1 := blk_frozen BK410.out 1; have hfz27_2 := blk_frozen BK410.out 2; have hfz27_3 := blk_frozen BK410.out 3; have hfz27_4 := blk_frozen BK410.out 4; have hfz27_5 := blk_frozen BK410.out 5) | (go_at_call 94; (with_reducible refine (impl_Term_areCodes.calls kj9 ((rd_T104 l0 x16_1).f0) ((rd_T104 l0 x16_1).f1) _ _ ((rd_T104 l0 x16_1).f2) _ _ ((rd_T104 l0 x16_1).f3) ((rd_T104 l0 x16_1).f4) ((rd_T104 l0 x16_1).f5) true _ ?_ ?_ ?_ ?_ A22.out).mono ?_); exact C_up (Kd.C_below HR409_2.out HB.out); exact HC409_2.out; exact C_up (Kd.C_below HR409_3.out HB.out); exact HC409_3.out; rintro e w28 ⟨rfl, hb⟩; replace HO_3 := Aside0.mk (Kd.R_below (R_up HO_3.out) hb); replace BK410 := Aside0.mk (blk_below (g := gb410) (blk_up BK410.out) hb); replace HB := Aside0.mk (below_step hs_ hb); (try clear hb); have hcz29_0 : w28.cell? ⟨gb410, 0, none⟩ = some (.int .i64 ((rd_T104 l0 x16_1).f0)) := (blk_cell BK410.out 0).trans rfl; have hcz29_1 : w28.cell? ⟨gb410, 1, none⟩ = some (.int .i64 ((rd_T104 l0 x16_1).f1)) := (blk_cell BK410.out 1).trans rfl; have hcz29_2 : w28.cell? ⟨gb410, 2, none⟩ = some (.slice A409_2 ((rd_T104 l0 x16_1).f2).length c409_2) := (blk_cell BK410.out 2).trans rfl; have hcz29_3 : w28.cell? ⟨gb410, 3, none⟩ = some (.slice A409_3 ((rd_T104 l0 x16_1).f3).length c409_3) := (blk_cell BK410.out 3).trans rfl; have hcz29_4 : w28.cell? ⟨gb410, 4, none⟩ = some (.int .i64 ((rd_T104 l0 x16_1).f4)) := (blk_cell BK410.out 4).trans rfl; have hcz29_5 : w28.cell? ⟨gb410, 5, none⟩ = some (.int .i64 ((rd_T104 l0 x16_1).f5)) := (blk_cell BK410.out 5).trans rfl; have hfz29_0 := blk_frozen BK410.out 0; have hfz29_1 := blk_frozen BK410.out 1; have hfz29_2 := blk_frozen BK410.out 2; have hfz29_3 := blk_frozen BK410.out 3; have hfz29_4 := blk_frozen BK410.out 4; have hfz29_5 := blk_frozen BK410.out 5))
            repeat (go_quiet (first | (go_at_call 93; (with_reducible refine (impl_Term_isNum.calls kj9 ((rd_T104 l0 x16_1).f0) ((rd_T104 l0 x16_1).f1) _ _ ((rd_T104 l0 x16_1).f2) _ _ ((rd_T104 l0 x16_1).f3) ((rd_T104 l0 x16_1).f4) ((rd_T104 l0 x16_1).f5) true _ ?_ ?_ ?_ ?_ A20.out).mono ?_); exact C_up (Kd.C_below HR409_2.out HB.out); exact HC409_2.out; exact C_up (Kd.C_below HR409_3.out HB.out); exact HC409_3.out; rintro e w26 ⟨rfl, hb⟩; replace HO_3 := Aside0.mk (Kd.R_below (R_up HO_3.out) hb); replace BK410 := Aside0.mk (blk_below (g := gb410) (blk_up BK410.out) hb); replace HB := Aside0.mk (below_step hs_ hb); (try clear hb); have hcz27_0 : w26.cell? ⟨gb410, 0, none⟩ = some (.int .i64 ((rd_T104 l0 x16_1).f0)) := (blk_cell BK410.out 0).trans rfl; have hcz27_1 : w26.cell? ⟨gb410, 1, none⟩ = some (.int .i64 ((rd_T104 l0 x16_1).f1)) := (blk_cell BK410.out 1).trans rfl; have hcz27_2 : w26.cell? ⟨gb410, 2, none⟩ = some (.slice A409_2 ((rd_T104 l0 x16_1).f2).length c409_2) := (blk_cell BK410.out 2).trans rfl; have hcz27_3 : w26.cell? ⟨gb410, 3, none⟩ = some (.slice A409_3 ((rd_T104 l0 x16_1).f3).length c409_3) := (blk_cell BK410.out 3).trans rfl; have hcz27_4 : w26.cell? ⟨gb410, 4, none⟩ = some (.int .i64 ((rd_T104 l0 x16_1).f4)) := (blk_cell BK410.out 4).trans rfl; have hcz27_5 : w26.cell? ⟨gb410, 5, none⟩ = some (.int .i64 ((rd_T104 l0 x16_1).f5)) := (blk_cell BK410.out 5).trans rfl; have hfz27_0 := blk_frozen BK410.out 0; have hfz27_1 := blk_frozen BK410.out 1; have hfz27_2 := blk_frozen BK410.out 2; have hfz27_3 := blk_frozen BK410.out 3; have hfz27_4 := blk_frozen BK410.out 4; have hfz27_5 := blk_frozen BK410.out 5) | (go_at_call 94; (with_reducible refine (impl_Term_areCodes.calls kj9 ((rd_T104 l0 x16_1).f0) ((rd_T104 l0 x16_1).f1) _ _ ((rd_T104 l0 x16_1).f2) _ _ ((rd_T104 l0 x16_1).f3) ((rd_T104 l0 x16_1).f4) ((rd_T104 l0 x16_1).f5) true _ ?_ ?_ ?_ ?_ A22.out).mono ?_); exact C_up (Kd.C_below HR409_2.out HB.out); exact HC409_2.out; exact C_up (Kd.C_below HR409_3.out HB.out); exact HC409_3.out; rintro e w28 ⟨rfl, hb⟩; replace HO_3 := Aside0.mk (Kd.R_below (R_up HO_3.out) hb); replace BK410 := Aside0.mk (blk_below (g := gb410) (blk_up BK410.out) hb); replace HB := Aside0.mk (below_step hs_ hb); (try clear hb); have hcz29_0 : w28.cell? ⟨gb410, 0, none⟩ = some (.int .i64 ((rd_T104 l0 x16_1).f0)) := (blk_cell BK410.out 0).trans rfl; have hcz29_1 : w28.cell? ⟨gb410, 1, none⟩ = some (.int .i64 ((rd_T104 l0 x16_1).f1)) := (blk_cell BK410.out 1).trans rfl; have hcz29_2 : w28.cell? ⟨gb410, 2, none⟩ = some (.slice A409_2 ((rd_T104 l0 x16_1).f2).length c409_2) := (blk_cell BK410.out 2).trans rfl; have hcz29_3 : w28.cell? ⟨gb410, 3, none⟩ = some (.slice A409_3 ((rd_T104 l0 x16_1).f3).length c409_3) := (blk_cell BK410.out 3).trans rfl; have hcz29_4 : w28.cell? ⟨gb410, 4, none⟩ = some (.int .i64 ((rd_T104 l0 x16_1).f4)) := (blk_cell BK410.out 4).trans rfl; have hcz29_5 : w28.cell? ⟨gb410, 5, none⟩ = some (.int .i64 ((rd_T104 l0 x16_1).f5)) := (blk_cell BK410.out 5).trans rfl; have hfz29_0 := blk_frozen BK410.out 0; have hfz29_1 := blk_frozen BK410.out 1; have hfz29_2 := blk_frozen BK410.out 2; have hfz29_3 := blk_frozen BK410.out 3; have hfz29_4 := blk_frozen BK410.out 4; have hfz29_5 := blk_frozen BK410.out 5)); go_upto_if 43 with (first | (go_at_call 93; (with_reducible refine (impl_Term_isNum.calls kj9 ((rd_T104 l0 x16_1).f0) ((rd_T104 l0 x16_1).f1) _ _ ((rd_T104 l0 x16_1).f2) _ _ ((rd_T104 l0 x16_1).f3) ((rd_T104 l0 x16_1).f4) ((rd_T104 l0 x16_1).f5) true _ ?_ ?_ ?_ ?_ A20.out).mono ?_); exact C_up (Kd.C_below HR409_2.out HB.out); exact HC409_2.out; exact C_up (Kd.C_below HR409_3.out HB.out); exact HC409_3.out; rintro e w26 ⟨rfl, hb⟩; replace HO_3 := Aside0.mk (Kd.R_below (R_up HO_3.out) hb); replace BK410 := Aside0.mk (blk_below (g := gb410) (blk_up BK410.out) hb); replace HB := Aside0.mk (below_step hs_ hb); (try clear hb); have hcz27_0 : w26.cell? ⟨gb410, 0, none⟩ = some (.int .i64 ((rd_T104 l0 x16_1).f0)) := (blk_cell BK410.out 0).trans rfl; have hcz27_1 : w26.cell? ⟨gb410, 1, none⟩ = some (.int .i64 ((rd_T104 l0 x16_1).f1)) := (blk_cell BK410.out 1).trans rfl; have hcz27_2 : w26.cell? ⟨gb410, 2, none⟩ = some (.slice A409_2 ((rd_T104 l0 x16_1).f2).length c409_2) := (blk_cell BK410.out 2).trans rfl; have hcz27_3 : w26.cell? ⟨gb410, 3, none⟩ = some (.slice A409_3 ((rd_T104 l0 x16_1).f3).length c409_3) := (blk_cell BK410.out 3).trans rfl; have hcz27_4 : w26.cell? ⟨gb410, 4, none⟩ = some (.int .i64 ((rd_T104 l0 x16_1).f4)) := (blk_cell BK410.out 4).trans rfl; have hcz27_5 : w26.cell? ⟨gb410, 5, none⟩ = some (.int .i64 ((rd_T104 l0 x16_1).f5)) := (blk_cell BK410.out 5).trans rfl; have hfz27_0 := blk_frozen BK410.out 0; have hfz27_1 := blk_frozen BK410.out 1; have hfz27_2 := blk_frozen BK410.out 2; have hfz27_3 := blk_frozen BK410.out 3; have hfz27_4 := blk_frozen BK410.out 4; have hfz27_5 := blk_frozen BK410.out 5) | (go_at_call 94; (with_reducible refine (impl_Term_areCodes.calls kj9 ((rd_T104 l0 x16_1).f0) ((rd_T104 l0 x16_1).f1) _ _ ((rd_T104 l0 x16_1).f2) _ _ ((rd_T104 l0 x16_1).f3) ((rd_T104 l0 x16_1).f4) ((rd_T104 l0 x16_1).f5) true _ ?_ ?_ ?_ ?_ A22.out).mono ?_); exact C_up (Kd.C_below HR409_2.out HB.out); exact HC409_2.out; exact C_up (Kd.C_below HR409_3.out HB.out); exact HC409_3.out; rintro e w28 ⟨rfl, hb⟩; replace HO_3 := Aside0.mk (Kd.R_below (R_up HO_3.out) hb); replace BK410 := Aside0.mk (blk_below (g := gb410) (blk_up BK410.out) hb); replace HB := Aside0.mk (below_step hs_ hb); (try clear hb); have hcz29_0 : w28.cell? ⟨gb410, 0, none⟩ = some (.int .i64 ((rd_T104 l0 x16_1).f0)) := (blk_cell BK410.out 0).trans rfl; have hcz29_1 : w28.cell? ⟨gb410, 1, none⟩ = some (.int .i64 ((rd_T104 l0 x16_1).f1)) := (blk_cell BK410.out 1).trans rfl; have hcz29_2 : w28.cell? ⟨gb410, 2, none⟩ = some (.slice A409_2 ((rd_T104 l0 x16_1).f2).length c409_2) := (blk_cell BK410.out 2).trans rfl; have hcz29_3 : w28.cell? ⟨gb410, 3, none⟩ = some (.slice A409_3 ((rd_T104 l0 x16_1).f3).length c409_3) := (blk_cell BK410.out 3).trans rfl; have hcz29_4 : w28.cell? ⟨gb410, 4, none⟩ = some (.int .i64 ((rd_T104 l0 x16_1).f4)) := (blk_cell BK410.out 4).trans rfl; have hcz29_5 : w28.cell? ⟨gb410, 5, none⟩ = some (.int .i64 ((rd_T104 l0 x16_1).f5)) := (blk_cell BK410.out 5).trans rfl; have hfz29_0 := blk_frozen BK410.out 0; have hfz29_1 := blk_frozen BK410.out 1; have hfz29_2 := blk_frozen BK410.out 2; have hfz29_3 := blk_frozen BK410.out 3; have hfz29_4 := blk_frozen BK410.out 4; have hfz29_5 := blk_frozen BK410.out 5)))
            (try simp only [Act.put, List.setIfInBounds_toArray, List.set_cons_zero, List.set_cons_succ])
            go_cut [] (fun wc => ∃ (kq : Nat), Aside0 (impl_TermsFault.j2 kq l0 x3_1 x16_1 1 l0 (l0.length : Int) x16_1 ((rd_T104 l0 x16_1).f0) ((rd_T104 l0 x16_1).f1) ((rd_T104 l0 x16_1).f2) ((rd_T104 l0 x16_1).f3) ((rd_T104 l0 x16_1).f4) ((rd_T104 l0 x16_1).f5) = some r) ∧ Aside0 (kq ≤ kj9) ∧ Aside0 (Kd.R (Kd.int .i64) 2 wc w.heap.size (fun _ => True) u3 x3_1) ∧ Aside0 (wc.heap[gb410]? = some (.cells #[.int .i64 ((rd_T104 l0 x16_1).f0), .int .i64 ((rd_T104 l0 x16_1).f1), (.slice A409_2 ((rd_T104 l0 x16_1).f2).length c409_2), (.slice A409_3 ((rd_T104 l0 x16_1).f3).length c409_3), .int .i64 ((rd_T104 l0 x16_1).f4), .int .i64 ((rd_T104 l0 x16_1).f5)] 104 (0, 0))) ∧ Aside0 (Below w.heap.size w wc))
            case first =>
             have H := HC24.out
             clear HC24
             by_cases c30 : ((rd_T104 l0 x16_1).f0) = 8
             ·
              rw [if_pos c30] at H
              have c30b0 : (((rd_T104 l0 x16_1).f0) == 8) = true := beq_iff_eq.mpr c30
              have c30b1 : (((rd_T104 l0 x16_1).f0) != 8) = false := bne_eq_false_iff_eq.mpr c30
              clear c30
              (first | rw [c30b0] | (simp only [i64_w, i32_w]; rw [c30b0]) | skip)
              replace H := Option.bind_eq_some_iff.mp H
              obtain ⟨t415, A310, H⟩ := H
              (try dsimp only at H)
              have A31 := Aside0.mk A310
              clear A310
              by_cases c32 : t415 = 0
              ·
               rw [if_pos c32] at H
               have c32b0 : (t415 == 0) = true := beq_iff_eq.mpr c32
               have c32b1 : (t415 != 0) = false := bne_eq_false_iff_eq.mpr c32
               clear c32
               have H' := Aside0.mk H
               clear H
               have hcz33_0 : w28.cell? ⟨gb410, 0, none⟩ = some (.int .i64 ((rd_T104 l0 x16_1).f0)) := (blk_cell BK410.out 0).trans rfl
               have hcz33_1 : w28.cell? ⟨gb410, 1, none⟩ = some (.int .i64 ((rd_T104 l0 x16_1).f1)) := (blk_cell BK410.out 1).trans rfl
               have hcz33_2 : w28.cell? ⟨gb410, 2, none⟩ = some (.slice A409_2 ((rd_T104 l0 x16_1).f2).length c409_2) := (blk_cell BK410.out 2).trans rfl
               have hcz33_3 : w28.cell? ⟨gb410, 3, none⟩ = some (.slice A409_3 ((rd_T104 l0 x16_1).f3).length c409_3) := (blk_cell BK410.out 3).trans rfl
               have hcz33_4 : w28.cell? ⟨gb410, 4, none⟩ = some (.int .i64 ((rd_T104 l0 x16_1).f4)) := (blk_cell BK410.out 4).trans rfl
               have hcz33_5 : w28.cell? ⟨gb410, 5, none⟩ = some (.int .i64 ((rd_T104 l0 x16_1).f5)) := (blk_cell BK410.out 5).trans rfl
               have hfz33_0 := blk_frozen BK410.out 0
               have hfz33_1 := blk_frozen BK410.out 1
               have hfz33_2 := blk_frozen BK410.out 2
               have hfz33_3 := blk_frozen BK410.out 3
               have hfz33_4 := blk_frozen BK410.out 4
               have hfz33_5 := blk_frozen BK410.out 5
               go_wp2_with (first | (go_at_call 42; (with_reducible refine (impl_RangesFault.calls kj9 _ _ ((rd_T104 l0 x16_1).f3) t415 _ ?_ ?_ A31.out).mono ?_); exact C_up (Kd.C_below HR409_3.out HB.out); exact HC409_3.out; rintro e w34 ⟨rfl, hb⟩; replace HO_3 := Aside0.mk (Kd.R_below (R_up HO_3.out) hb); replace BK410 := Aside0.mk (blk_below (g := gb410) (blk_up BK410.out) hb); replace HB := Aside0.mk (below_step hs_ hb); (try clear hb)))
               repeat (go_quiet (first | (go_at_call 42; (with_reducible refine (impl_RangesFault.calls kj9 _ _ ((rd_T104 l0 x16_1).f3) t415 _ ?_ ?_ A31.out).mono ?_); exact C_up (Kd.C_below HR409_3.out HB.out); exact HC409_3.out; rintro e w34 ⟨rfl, hb⟩; replace HO_3 := Aside0.mk (Kd.R_below (R_up HO_3.out) hb); replace BK410 := Aside0.mk (blk_below (g := gb410) (blk_up BK410.out) hb); replace HB := Aside0.mk (below_step hs_ hb); (try clear hb))); try go_wp2_with (first | (go_at_call 42; (with_reducible refine (impl_RangesFault.calls kj9 _ _ ((rd_T104 l0 x16_1).f3) t415 _ ?_ ?_ A31.out).mono ?_); exact C_up (Kd.C_below HR409_3.out HB.out); exact HC409_3.out; rintro e w34 ⟨rfl, hb⟩; replace HO_3 := Aside0.mk (Kd.R_below (R_up HO_3.out) hb); replace BK410 := Aside0.mk (blk_below (g := gb410) (blk_up BK410.out) hb); replace HB := Aside0.mk (below_step hs_ hb); (try clear hb))))
               go_meet
               case rel => exact ⟨_, H', ⟨by have := HK1.out; have := HJ9.out; first | omega | exact Nat.le_refl _⟩, ⟨R_up HO_3.out⟩, ⟨blk_up BK410.out⟩, ⟨hs_⟩⟩
              ·
               rw [if_neg c32] at H
               have c32b0 : (t415 == 0) = false := beq_eq_false_iff_ne.mpr c32
               have c32b1 : (t415 != 0) = true := bne_iff_ne.mpr c32
               obtain rfl := Option.some.inj H
               have hcz35_0 : w28.cell? ⟨gb410, 0, none⟩ = some (.int .i64 ((rd_T104 l0 x16_1).f0)) := (blk_cell BK410.out 0).trans rfl
               have hcz35_1 : w28.cell? ⟨gb410, 1, none⟩ = some (.int .i64 ((rd_T104 l0 x16_1).f1)) := (blk_cell BK410.out 1).trans rfl
               have hcz35_2 : w28.cell? ⟨gb410, 2, none⟩ = some (.slice A409_2 ((rd_T104 l0 x16_1).f2).length c409_2) := (blk_cell BK410.out 2).trans rfl
               have hcz35_3 : w28.cell? ⟨gb410, 3, none⟩ = some (.slice A409_3 ((rd_T104 l0 x16_1).f3).length c409_3) := (blk_cell BK410.out 3).trans rfl
               have hcz35_4 : w28.cell? ⟨gb410, 4, none⟩ = some (.int .i64 ((rd_T104 l0 x16_1).f4)) := (blk_cell BK410.out 4).trans rfl
               have hcz35_5 : w28.cell? ⟨gb410, 5, none⟩ = some (.int .i64 ((rd_T104 l0 x16_1).f5)) := (blk_cell BK410.out 5).trans rfl
               have hfz35_0 := blk_frozen BK410.out 0
               have hfz35_1 := blk_frozen BK410.out 1
               have hfz35_2 := blk_frozen BK410.out 2
               have hfz35_3 := blk_frozen BK410.out 3
               have hfz35_4 := blk_frozen BK410.out 4
               have hfz35_5 := blk_frozen BK410.out 5
               go_wp2_with (first | (go_at_call 42; (with_reducible refine (impl_RangesFault.calls kj9 _ _ ((rd_T104 l0 x16_1).f3) t415 _ ?_ ?_ A31.out).mono ?_); exact C_up (Kd.C_below HR409_3.out HB.out); exact HC409_3.out; rintro e w36 ⟨rfl, hb⟩; replace HO_3 := Aside0.mk (Kd.R_below (R_up HO_3.out) hb); replace BK410 := Aside0.mk (blk_below (g := gb410) (blk_up BK410.out) hb); replace HB := Aside0.mk (below_step hs_ hb); (try clear hb)))
               repeat (go_quiet (first | (go_at_call 42; (with_reducible refine (impl_RangesFault.calls kj9 _ _ ((rd_T104 l0 x16_1).f3) t415 _ ?_ ?_ A31.out).mono ?_); exact C_up (Kd.C_below HR409_3.out HB.out); exact HC409_3.out; rintro e w36 ⟨rfl, hb⟩; replace HO_3 := Aside0.mk (Kd.R_below (R_up HO_3.out) hb); replace BK410 := Aside0.mk (blk_below (g := gb410) (blk_up BK410.out) hb); replace HB := Aside0.mk (below_step hs_ hb); (try clear hb))); try go_wp2_with (first | (go_at_call 42; (with_reducible refine (impl_RangesFault.calls kj9 _ _ ((rd_T104 l0 x16_1).f3) t415 _ ?_ ?_ A31.out).mono ?_); exact C_up (Kd.C_below HR409_3.out HB.out); exact HC409_3.out; rintro e w36 ⟨rfl, hb⟩; replace HO_3 := Aside0.mk (Kd.R_below (R_up HO_3.out) hb); replace BK410 := Aside0.mk (blk_below (g := gb410) (blk_up BK410.out) hb); replace HB := Aside0.mk (below_step hs_ hb); (try clear hb))))
               go_ret
               exact ⟨ve_, hs_⟩
             ·
              rw [if_neg c30] at H
              have c30b0 : (((rd_T104 l0 x16_1).f0) == 8) = false := beq_eq_false_iff_ne.mpr c30
              have c30b1 : (((rd_T104 l0 x16_1).f0) != 8) = true := bne_iff_ne.mpr c30
              (first | rw [c30b0] | (simp only [i64_w, i32_w]; rw [c30b0]) | skip)
              have H' := Aside0.mk H
              clear H
              go_wp2
              repeat (go_quiet (fail); try go_wp2)
              go_meet
              case rel => exact ⟨_, H', ⟨by have := HK1.out; have := HJ9.out; first | omega | exact Nat.le_refl _⟩, ⟨R_up HO_3.out⟩, ⟨blk_up BK410.out⟩, ⟨hs_⟩⟩
            case rest =>
             clear HC24
             try clear c4
             try clear q4
             try clear hx4
             try clear c7
             try clear c7b0
             try clear c8
             try clear c8b0
             try clear c9
             try clear c9b0
             try clear c19
             try clear c21
             try clear c23
             try clear hcz12_0
             try clear hcz12_1
             try clear hcz12_2
             try clear hcz12_3
             try clear hcz12_4
             try clear hcz12_5
             try clear hcz25_0
             try clear hcz25_1
             try clear hcz25_2
             try clear hcz25_3
             try clear hcz25_4
             try clear hcz25_5
             try clear hcz27_0
             try clear hcz27_1
             try clear hcz27_2
             try clear hcz27_3
             try clear hcz27_4
             try clear hcz27_5
             try clear hcz29_0
             try clear hcz29_1
             try clear hcz29_2
             try clear hcz29_3
             try clear hcz29_4
             try clear hcz29_5
             try clear hfz12_0
             try clear hfz12_1
             try clear hfz12_2
             try clear hfz12_3
             try clear hfz12_4
             try clear hfz12_5
             try clear hfz25_0
             try clear hfz25_1
             try clear hfz25_2
             try clear hfz25_3
             try clear hfz25_4
             try clear hfz25_5
             try clear hfz27_0
             try clear hfz27_1
             try clear hfz27_2
             try clear hfz27_3
             try clear hfz27_4
             try clear hfz27_5
             try clear hfz29_0
             try clear hfz29_1
             try clear hfz29_2
             try clear hfz29_3
             try clear hfz29_4
             try clear hfz29_5
             try clear hx409_0
             try clear hx409_1
             try clear hx409_2
             try clear hx409_3
             try clear hx409_4
             try clear hx409_5
             try clear p409
             try clear q4
             try clear q409
             obtain ⟨kq, HA, HJ23, HO_3, BK410, HB⟩ := hcut
             cases kq with
             | zero => exact absurd HA.out (by simp [impl_TermsFault.j2])
             | succ kj23 =>
               have H := HA.out
               clear HA
               simp only [impl_TermsFault.j2] at H
               by_cases c37 : ((rd_T104 l0 x16_1).f0) = 9
               ·
                rw [if_pos c37] at H
                have c37b0 : (((rd_T104 l0 x16_1).f0) == 9) = true := beq_iff_eq.mpr c37
                have c37b1 : (((rd_T104 l0 x16_1).f0) != 9) = false := bne_eq_false_iff_eq.mpr c37
                clear c37
                by_cases c38 : x16_1 = 0
                ·
                 rw [if_pos c38] at H
                 have c38b0 : (x16_1 == 0) = true := beq_iff_eq.mpr c38
                 have c38b1 : (x16_1 != 0) = false := bne_eq_false_iff_eq.mpr c38
                 clear c38
                 obtain rfl := Option.some.inj H
                 have hcz39_0 : wc.cell? ⟨gb410, 0, none⟩ = some (.int .i64 ((rd_T104 l0 x16_1).f0)) := (blk_cell BK410.out 0).trans rfl
                 have hcz39_1 : wc.cell? ⟨gb410, 1, none⟩ = some (.int .i64 ((rd_T104 l0 x16_1).f1)) := (blk_cell BK410.out 1).trans rfl
                 have hcz39_2 : wc.cell? ⟨gb410, 2, none⟩ = some (.slice A409_2 ((rd_T104 l0 x16_1).f2).length c409_2) := (blk_cell BK410.out 2).trans rfl
                 have hcz39_3 : wc.cell? ⟨gb410, 3, none⟩ = some (.slice A409_3 ((rd_T104 l0 x16_1).f3).length c409_3) := (blk_cell BK410.out 3).trans rfl
                 have hcz39_4 : wc.cell? ⟨gb410, 4, none⟩ = some (.int .i64 ((rd_T104 l0 x16_1).f4)) := (blk_cell BK410.out 4).trans rfl
                 have hcz39_5 : wc.cell? ⟨gb410, 5, none⟩ = some (.int .i64 ((rd_T104 l0 x16_1).f5)) := (blk_cell BK410.out 5).trans rfl
                 have hfz39_0 := blk_frozen BK410.out 0
                 have hfz39_1 := blk_frozen BK410.out 1
                 have hfz39_2 := blk_frozen BK410.out 2
                 have hfz39_3 := blk_frozen BK410.out 3
                 have hfz39_4 := blk_frozen BK410.out 4
                 have hfz39_5 := blk_frozen BK410.out 5
                 go_wp2
                 repeat (go_quiet (fail); try go_wp2)
                 go_ret
                 exact ⟨ve_, hs_⟩
                ·
                 rw [if_neg c38] at H
                 have c38b0 : (x16_1 == 0) = false := beq_eq_false_iff_ne.mpr c38
                 have c38b1 : (x16_1 != 0) = true := bne_iff_ne.mpr c38
                 by_cases c40 : ((rd_T104 l0 x16_1).f4) = (wrap64 (x16_1 - 1))
                 ·
                  rw [if_pos c40] at H
                  have c40b0 : (((rd_T104 l0 x16_1).f4) == (wrap64 (x16_1 - 1))) = true := beq_iff_eq.mpr c40
                  have c40b1 : (((rd_T104 l0 x16_1).f4) != (wrap64 (x16_1 - 1))) = false := bne_eq_false_iff_eq.mpr c40
                  clear c40
                  obtain ⟨ji41, hji41⟩ : ∃ j_ : Int, (wrap64 (x16_1 - 1)) = j_ := ⟨_, rfl⟩
                  replace H : (if 0 ≤ (ji41) then (if (ji41) < (x3_1.length : Int) then (if x3_1.length < 17592186044416 then (impl_TermsFault.l0 kj23 l0 (x3_1 ++ [wrap64 (1 + (rd x3_1 (ji41)))]) l0 (l0.length : Int) (wrap64 (x16_1 + 1))) else (none)) else (none)) else (none)) = some r := by first | (rw [hji41] at H; exact H) | (simp only [hji41] at H ⊢; exact H)
                  (try rw [hji41] at c40b0)
                  (try rw [hji41] at c40b1)
                  have hji41w : (IntKind.i64.wrap (x16_1 - 1)) = ji41 := (i64_w _).trans hji41
                  by_cases c42 : 0 ≤ (ji41)
                  case neg => rw [if_neg c42] at H; exact absurd H (by simp)
                  rw [if_pos c42] at H
                  have c42b0 : decide (0 ≤ (ji41)) = true := decide_eq_true c42
                  clear c42
                  by_cases c43 : (ji41) < (x3_1.length : Int)
                  case neg => rw [if_neg c43] at H; exact absurd H (by simp)
                  rw [if_pos c43] at H
                  have c43b0 : decide ((ji41) < (x3_1.length : Int)) = true := decide_eq_true c43
                  clear c43
                  by_cases c44 : x3_1.length < 17592186044416
                  case neg => rw [if_neg c44] at H; exact absurd H (by simp)
                  rw [if_pos c44] at H
                  have LMc44 := Aside0.mk c44
                  clear c44
                  obtain ⟨y417, hy417⟩ : ∃ y_ : List Int, y_ = (x3_1 ++ [wrap64 (1 + (rd x3_1 (ji41)))]) := ⟨_, rfl⟩
                  replace H : (impl_TermsFault.l0 kj23 l0 y417 l0 (l0.length : Int) (wrap64 (x16_1 + 1))) = some r := by first | (rw [hy417]; with_reducible exact H) | (have H2_ := (Option.bind_some _ _).symm.trans H; rw [hy417]; with_reducible exact H2_) | (have H2_ := (Option.bind_some _ _).symm.trans H; with_reducible exact H2_) | with_reducible exact H | (rw [hy417]; exact H) | exact H
                  have Ny417 := Aside0.mk hy417
                  clear hy417
                  have H' := Aside0.mk H
                  clear H
                  have hcz45_0 : wc.cell? ⟨gb410, 0, none⟩ = some (.int .i64 ((rd_T104 l0 x16_1).f0)) := (blk_cell BK410.out 0).trans rfl
                  have hcz45_1 : wc.cell? ⟨gb410, 1, none⟩ = some (.int .i64 ((rd_T104 l0 x16_1).f1)) := (blk_cell BK410.out 1).trans rfl
                  have hcz45_2 : wc.cell? ⟨gb410, 2, none⟩ = some (.slice A409_2 ((rd_T104 l0 x16_1).f2).length c409_2) := (blk_cell BK410.out 2).trans rfl
                  have hcz45_3 : wc.cell? ⟨gb410, 3, none⟩ = some (.slice A409_3 ((rd_T104 l0 x16_1).f3).length c409_3) := (blk_cell BK410.out 3).trans rfl
                  have hcz45_4 : wc.cell? ⟨gb410, 4, none⟩ = some (.int .i64 ((rd_T104 l0 x16_1).f4)) := (blk_cell BK410.out 4).trans rfl
                  have hcz45_5 : wc.cell? ⟨gb410, 5, none⟩ = some (.int .i64 ((rd_T104 l0 x16_1).f5)) := (blk_cell BK410.out 5).trans rfl
                  have hfz45_0 := blk_frozen BK410.out 0
                  have hfz45_1 := blk_frozen BK410.out 1
                  have hfz45_2 := blk_frozen BK410.out 2
                  have hfz45_3 := blk_frozen BK410.out 3
                  have hfz45_4 := blk_frozen BK410.out 4
                  have hfz45_5 := blk_frozen BK410.out 5
                  obtain ⟨Ao46, co46, eo46⟩ := Kd.R_slice HO_3.out
                  subst eo46
                  have p416 : 0 ≤ ((ji41) : Int) := od_
                  have q416 : (ji41) < (x3_1.length : Int) := od_
                  obtain ⟨ad416, e416, hx416_0⟩ := Kd.at_int (Kd.R_reads' HO_3.out).2.2 (ji41) p416 q416
                  cases e416
                  replace p416 := eq_true p416
                  replace q416 := eq_true q416
                  go_wp2_with (first | ((with_reducible refine gate_builtin (b := .append) (xs := #[.tmp 114, .tmp 116]) rfl ?_); at_builtin; refine Kd.R_append (Kd.int .i64) (w0 := w) w.heap.size rfl (.tmp 114) (.tmp 116) 24 2 (.int .i64 0) 8 rfl Try.underlying24 info2 rfl (by decide) (by omega) (.slice (some ad416) x3_1.length co46) x3_1 (wrap64 (1 + (rd x3_1 (ji41)))) [.int .i64 (wrap64 (1 + (rd x3_1 (ji41))))] (fun _ => True) (fun _ => False) rfl rfl ?aP (fun _ hk => hk.elim) ?aF ?aO ?aB ?aS ?aL ?_; (case aP => exact rfl); (case aB => exact hs_); (case aF => exact (fun _ _ => trivial)); (case aO => exact (R_up HO_3.out)); (case aS => exact (below_size hs_)); (case aL => have := LMc44.out; omega); intro v418 w47 ho hb hg hat; rw [← Ny417.out] at ho; have n0_ := Aside0.mk (blk_grown (g := gb410) (blk_up BK410.out) hg (Kd.R_ne HO_3.out BK410.out (by decide))); have n1_ := Aside0.mk (hb); have n2_ := Aside0.mk (ho); clear BK410; clear HB; clear HO_3; have BK410 := n0_; have HB := n1_; have HO419 := n2_; clear n0_ n1_ n2_; clear ho hb hg hat))
                  repeat (go_quiet (first | ((with_reducible refine gate_builtin (b := .append) (xs := #[.tmp 114, .tmp 116]) rfl ?_); at_builtin; refine Kd.R_append (Kd.int .i64) (w0 := w) w.heap.size rfl (.tmp 114) (.tmp 116) 24 2 (.int .i64 0) 8 rfl Try.underlying24 info2 rfl (by decide) (by omega) (.slice (some ad416) x3_1.length co46) x3_1 (wrap64 (1 + (rd x3_1 (ji41)))) [.int .i64 (wrap64 (1 + (rd x3_1 (ji41))))] (fun _ => True) (fun _ => False) rfl rfl ?aP (fun _ hk => hk.elim) ?aF ?aO ?aB ?aS ?aL ?_; (case aP => exact rfl); (case aB => exact hs_); (case aF => exact (fun _ _ => trivial)); (case aO => exact (R_up HO_3.out)); (case aS => exact (below_size hs_)); (case aL => have := LMc44.out; omega); intro v418 w47 ho hb hg hat; rw [← Ny417.out] at ho; have n0_ := Aside0.mk (blk_grown (g := gb410) (blk_up BK410.out) hg (Kd.R_ne HO_3.out BK410.out (by decide))); have n1_ := Aside0.mk (hb); have n2_ := Aside0.mk (ho); clear BK410; clear HB; clear HO_3; have BK410 := n0_; have HB := n1_; have HO419 := n2_; clear n0_ n1_ n2_; clear ho hb hg hat)); try go_wp2_with (first | ((with_reducible refine gate_builtin (b := .append) (xs := #[.tmp 114, .tmp 116]) rfl ?_); at_builtin; refine Kd.R_append (Kd.int .i64) (w0 := w) w.heap.size rfl (.tmp 114) (.tmp 116) 24 2 (.int .i64 0) 8 rfl Try.underlying24 info2 rfl (by decide) (by omega) (.slice (some ad416) x3_1.length co46) x3_1 (wrap64 (1 + (rd x3_1 (ji41)))) [.int .i64 (wrap64 (1 + (rd x3_1 (ji41))))] (fun _ => True) (fun _ => False) rfl rfl ?aP (fun _ hk => hk.elim) ?aF ?aO ?aB ?aS ?aL ?_; (case aP => exact rfl); (case aB => exact hs_); (case aF => exact (fun _ _ => trivial)); (case aO => exact (R_up HO_3.out)); (case aS => exact (below_size hs_)); (case aL => have := LMc44.out; omega); intro v418 w47 ho hb hg hat; rw [← Ny417.out] at ho; have n0_ := Aside0.mk (blk_grown (g := gb410) (blk_up BK410.out) hg (Kd.R_ne HO_3.out BK410.out (by decide))); have n1_ := Aside0.mk (hb); have n2_ := Aside0.mk (ho); clear BK410; clear HB; clear HO_3; have BK410 := n0_; have HB := n1_; have HO419 := n2_; clear n0_ n1_ n2_; clear ho hb hg hat)))
                  go_roundg kj23
                  case measure => have := HK1.out; have := HJ9.out; have := HJ23.out; omega
                  case rel => exact ⟨(y417), (wrap64 (x16_1 + 1)), vl_, H', ⟨by have := HK1.out; have := HJ9.out; have := HJ23.out; omega⟩, ⟨R_up HO419.out⟩, ⟨hs_⟩⟩
                 ·
                  rw [if_neg c40] at H
                  have c40b0 : (((rd_T104 l0 x16_1).f4) == (wrap64 (x16_1 - 1))) = false := beq_eq_false_iff_ne.mpr c40
                  have c40b1 : (((rd_T104 l0 x16_1).f4) != (wrap64 (x16_1 - 1))) = true := bne_iff_ne.mpr c40
                  obtain rfl := Option.some.inj H
                  have hcz48_0 : wc.cell? ⟨gb410, 0, none⟩ = some (.int .i64 ((rd_T104 l0 x16_1).f0)) := (blk_cell BK410.out 0).trans rfl
                  have hcz48_1 : wc.cell? ⟨gb410, 1, none⟩ = some (.int .i64 ((rd_T104 l0 x16_1).f1)) := (blk_cell BK410.out 1).trans rfl
                  have hcz48_2 : wc.cell? ⟨gb410, 2, none⟩ = some (.slice A409_2 ((rd_T104 l0 x16_1).f2).length c409_2) := (blk_cell BK410.out 2).trans rfl
                  have hcz48_3 : wc.cell? ⟨gb410, 3, none⟩ = some (.slice A409_3 ((rd_T104 l0 x16_1).f3).length c409_3) := (blk_cell BK410.out 3).trans rfl
                  have hcz48_4 : wc.cell? ⟨gb410, 4, none⟩ = some (.int .i64 ((rd_T104 l0 x16_1).f4)) := (blk_cell BK410.out 4).trans rfl
                  have hcz48_5 : wc.cell? ⟨gb410, 5, none⟩ = some (.int .i64 ((rd_T104 l0 x16_1).f5)) := (blk_cell BK410.out 5).trans rfl
                  have hfz48_0 := blk_frozen BK410.out 0
                  have hfz48_1 := blk_frozen BK410.out 1
                  have hfz48_2 := blk_frozen BK410.out 2
                  have hfz48_3 := blk_frozen BK410.out 3
                  have hfz48_4 := blk_frozen BK410.out 4
                  have hfz48_5 := blk_frozen BK410.out 5
                  go_wp2
                  repeat (go_quiet (fail); try go_wp2)
                  go_ret
                  exact ⟨ve_, hs_⟩
               ·
                rw [if_neg c37] at H
                have c37b0 : (((rd_T104 l0 x16_1).f0) == 9) = false := beq_eq_false_iff_ne.mpr c37
                have c37b1 : (((rd_T104 l0 x16_1).f0) != 9) = true := bne_iff_ne.mpr c37
                by_cases c49 : ((rd_T104 l0 x16_1).f0) > 9
                ·
                 rw [if_pos c49] at H
                 have c49b0 : decide (9 < ((rd_T104 l0 x16_1).f0)) = true := decide_eq_true c49
                 clear c49
                 by_cases c50 : x16_1 < 2
                 ·
                  rw [if_pos c50] at H
                  have c50b0 : decide (x16_1 < 2) = true := decide_eq_true c50
                  clear c50
                  obtain rfl := Option.some.inj H
                  have hcz51_0 : wc.cell? ⟨gb410, 0, none⟩ = some (.int .i64 ((rd_T104 l0 x16_1).f0)) := (blk_cell BK410.out 0).trans rfl
                  have hcz51_1 : wc.cell? ⟨gb410, 1, none⟩ = some (.int .i64 ((rd_T104 l0 x16_1).f1)) := (blk_cell BK410.out 1).trans rfl
                  have hcz51_2 : wc.cell? ⟨gb410, 2, none⟩ = some (.slice A409_2 ((rd_T104 l0 x16_1).f2).length c409_2) := (blk_cell BK410.out 2).trans rfl
                  have hcz51_3 : wc.cell? ⟨gb410, 3, none⟩ = some (.slice A409_3 ((rd_T104 l0 x16_1).f3).length c409_3) := (blk_cell BK410.out 3).trans rfl
                  have hcz51_4 : wc.cell? ⟨gb410, 4, none⟩ = some (.int .i64 ((rd_T104 l0 x16_1).f4)) := (blk_cell BK410.out 4).trans rfl
                  have hcz51_5 : wc.cell? ⟨gb410, 5, none⟩ = some (.int .i64 ((rd_T104 l0 x16_1).f5)) := (blk_cell BK410.out 5).trans rfl
                  have hfz51_0 := blk_frozen BK410.out 0
                  have hfz51_1 := blk_frozen BK410.out 1
                  have hfz51_2 := blk_frozen BK410.out 2
                  have hfz51_3 := blk_frozen BK410.out 3
                  have hfz51_4 := blk_frozen BK410.out 4
                  have hfz51_5 := blk_frozen BK410.out 5
                  go_wp2
                  repeat (go_quiet (fail); try go_wp2)
                  go_ret
                  exact ⟨ve_, hs_⟩
                 ·
                  rw [if_neg c50] at H
                  have c50b0 : decide (x16_1 < 2) = false := decide_eq_false c50
                  clear c50
                  by_cases c52 : ((rd_T104 l0 x16_1).f5) = (wrap64 (x16_1 - 1))
                  ·
                   rw [if_pos c52] at H
                   have c52b0 : (((rd_T104 l0 x16_1).f5) == (wrap64 (x16_1 - 1))) = true := beq_iff_eq.mpr c52
                   have c52b1 : (((rd_T104 l0 x16_1).f5) != (wrap64 (x16_1 - 1))) = false := bne_eq_false_iff_eq.mpr c52
                   clear c52
                   by_cases c53 : ((rd_T104 l0 x16_1).f4) < 0
                   ·
                    rw [if_pos c53] at H
                    have c53b0 : decide (((rd_T104 l0 x16_1).f4) < 0) = true := decide_eq_true c53
                    clear c53
                    obtain rfl := Option.some.inj H
                    have hcz54_0 : wc.cell? ⟨gb410, 0, none⟩ = some (.int .i64 ((rd_T104 l0 x16_1).f0)) := (blk_cell BK410.out 0).trans rfl
                    have hcz54_1 : wc.cell? ⟨gb410, 1, none⟩ = some (.int .i64 ((rd_T104 l0 x16_1).f1)) := (blk_cell BK410.out 1).trans rfl
                    have hcz54_2 : wc.cell? ⟨gb410, 2, none⟩ = some (.slice A409_2 ((rd_T104 l0 x16_1).f2).length c409_2) := (blk_cell BK410.out 2).trans rfl
                    have hcz54_3 : wc.cell? ⟨gb410, 3, none⟩ = some (.slice A409_3 ((rd_T104 l0 x16_1).f3).length c409_3) := (blk_cell BK410.out 3).trans rfl
                    have hcz54_4 : wc.cell? ⟨gb410, 4, none⟩ = some (.int .i64 ((rd_T104 l0 x16_1).f4)) := (blk_cell BK410.out 4).trans rfl
                    have hcz54_5 : wc.cell? ⟨gb410, 5, none⟩ = some (.int .i64 ((rd_T104 l0 x16_1).f5)) := (blk_cell BK410.out 5).trans rfl
                    have hfz54_0 := blk_frozen BK410.out 0
                    have hfz54_1 := blk_frozen BK410.out 1
                    have hfz54_2 := blk_frozen BK410.out 2
                    have hfz54_3 := blk_frozen BK410.out 3
                    have hfz54_4 := blk_frozen BK410.out 4
                    have hfz54_5 := blk_frozen BK410.out 5
                    go_wp2
                    repeat (go_quiet (fail); try go_wp2)
                    go_ret
                    exact ⟨ve_, hs_⟩
                   ·
                    rw [if_neg c53] at H
                    have c53b0 : decide (((rd_T104 l0 x16_1).f4) < 0) = false := decide_eq_false c53
                    clear c53
                    obtain ⟨ji55, hji55⟩ : ∃ j_ : Int, (wrap64 (x16_1 - 1)) = j_ := ⟨_, rfl⟩
                    replace H : (if 0 ≤ (ji55) then (if (ji55) < (x3_1.length : Int) then (if ((rd_T104 l0 x16_1).f4) = (wrap64 ((ji55) - (rd x3_1 (ji55)))) then (if 0 ≤ ((rd_T104 l0 x16_1).f4) then (if ((rd_T104 l0 x16_1).f4) < (x3_1.length : Int) then (if x3_1.length < 17592186044416 then (impl_TermsFault.l0 kj23 l0 (x3_1 ++ [wrap64 (1 + (wrap64 ((rd x3_1 (ji55)) + (rd x3_1 ((rd_T104 l0 x16_1).f4)))))]) l0 (l0.length : Int) (wrap64 (x16_1 + 1))) else (none)) else (none)) else (none)) else (some 1)) else (none)) else (none)) = some r := by first | (rw [hji55] at H; exact H) | (simp only [hji55] at H ⊢; exact H)
                    (try rw [hji55] at c52b0)
                    (try rw [hji55] at c52b1)
                    have hji55w : (IntKind.i64.wrap (x16_1 - 1)) = ji55 := (i64_w _).trans hji55
                    by_cases c56 : 0 ≤ (ji55)
                    case neg => rw [if_neg c56] at H; exact absurd H (by simp)
                    rw [if_pos c56] at H
                    have c56b0 : decide (0 ≤ (ji55)) = true := decide_eq_true c56
                    clear c56
                    by_cases c57 : (ji55) < (x3_1.length : Int)
                    case neg => rw [if_neg c57] at H; exact absurd H (by simp)
                    rw [if_pos c57] at H
                    have c57b0 : decide ((ji55) < (x3_1.length : Int)) = true := decide_eq_true c57
                    clear c57
                    by_cases c58 : ((rd_T104 l0 x16_1).f4) = (wrap64 ((ji55) - (rd x3_1 (ji55))))
                    ·
                     rw [if_pos c58] at H
                     have c58b0 : (((rd_T104 l0 x16_1).f4) == (wrap64 ((ji55) - (rd x3_1 (ji55))))) = true := beq_iff_eq.mpr c58
                     have c58b1 : (((rd_T104 l0 x16_1).f4) != (wrap64 ((ji55) - (rd x3_1 (ji55))))) = false := bne_eq_false_iff_eq.mpr c58
                     clear c58
                     by_cases c59 : 0 ≤ ((rd_T104 l0 x16_1).f4)
                     case neg => rw [if_neg c59] at H; exact absurd H (by simp)
                     rw [if_pos c59] at H
                     have c59b0 : decide (0 ≤ ((rd_T104 l0 x16_1).f4)) = true := decide_eq_true c59
                     clear c59
                     by_cases c60 : ((rd_T104 l0 x16_1).f4) < (x3_1.length : Int)
                     case neg => rw [if_neg c60] at H; exact absurd H (by simp)
                     rw [if_pos c60] at H
                     have c60b0 : decide (((rd_T104 l0 x16_1).f4) < (x3_1.length : Int)) = true := decide_eq_true c60
                     clear c60
                     by_cases c61 : x3_1.length < 17592186044416
                     case neg => rw [if_neg c61] at H; exact absurd H (by simp)
                     rw [if_pos c61] at H
                     have LMc61 := Aside0.mk c61
                     clear c61
                     obtain ⟨y423, hy423⟩ : ∃ y_ : List Int, y_ = (x3_1 ++ [wrap64 (1 + (wrap64 ((rd x3_1 (ji55)) + (rd x3_1 ((rd_T104 l0 x16_1).f4)))))]) := ⟨_, rfl⟩
                     replace H : (impl_TermsFault.l0 kj23 l0 y423 l0 (l0.length : Int) (wrap64 (x16_1 + 1))) = some r := by first | (rw [hy423]; with_reducible exact H) | (have H2_ := (Option.bind_some _ _).symm.trans H; rw [hy423]; with_reducible exact H2_) | (have H2_ := (Option.bind_some _ _).symm.trans H; with_reducible exact H2_) | with_reducible exact H | (rw [hy423]; exact H) | exact H
                     have Ny423 := Aside0.mk hy423
                     clear hy423
                     have H' := Aside0.mk H
                     clear H
                     have hcz62_0 : wc.cell? ⟨gb410, 0, none⟩ = some (.int .i64 ((rd_T104 l0 x16_1).f0)) := (blk_cell BK410.out 0).trans rfl
                     have hcz62_1 : wc.cell? ⟨gb410, 1, none⟩ = some (.int .i64 ((rd_T104 l0 x16_1).f1)) := (blk_cell BK410.out 1).trans rfl
                     have hcz62_2 : wc.cell? ⟨gb410, 2, none⟩ = some (.slice A409_2 ((rd_T104 l0 x16_1).f2).length c409_2) := (blk_cell BK410.out 2).trans rfl
                     have hcz62_3 : wc.cell? ⟨gb410, 3, none⟩ = some (.slice A409_3 ((rd_T104 l0 x16_1).f3).length c409_3) := (blk_cell BK410.out 3).trans rfl
                     have hcz62_4 : wc.cell? ⟨gb410, 4, none⟩ = some (.int .i64 ((rd_T104 l0 x16_1).f4)) := (blk_cell BK410.out 4).trans rfl
                     have hcz62_5 : wc.cell? ⟨gb410, 5, none⟩ = some (.int .i64 ((rd_T104 l0 x16_1).f5)) := (blk_cell BK410.out 5).trans rfl
                     have hfz62_0 := blk_frozen BK410.out 0
                     have hfz62_1 := blk_frozen BK410.out 1
                     have hfz62_2 := blk_frozen BK410.out 2
                     have hfz62_3 := blk_frozen BK410.out 3
                     have hfz62_4 := blk_frozen BK410.out 4
                     have hfz62_5 := blk_frozen BK410.out 5
                     obtain ⟨Ao63, co63, eo63⟩ := Kd.R_slice HO_3.out
                     subst eo63
                     have p420 : 0 ≤ ((ji55) : Int) := od_
                     have q420 : (ji55) < (x3_1.length : Int) := od_
                     obtain ⟨ad420, e420, hx420_0⟩ := Kd.at_int (Kd.R_reads' HO_3.out).2.2 (ji55) p420 q420
                     cases e420
                     replace p420 := eq_true p420
                     replace q420 := eq_true q420
                     have p421 : 0 ≤ ((ji55) : Int) := od_
                     have q421 : (ji55) < (x3_1.length : Int) := od_
                     obtain ⟨ad421, e421, hx421_0⟩ := Kd.at_int (Kd.R_reads' HO_3.out).2.2 (ji55) p421 q421
                     obtain rfl : ad420 = ad421 := (by injection e421)
                     replace p421 := eq_true p421
                     replace q421 := eq_true q421
                     have p422 : 0 ≤ (((rd_T104 l0 x16_1).f4) : Int) := od_
                     have q422 : ((rd_T104 l0 x16_1).f4) < (x3_1.length : Int) := od_
                     obtain ⟨ad422, e422, hx422_0⟩ := Kd.at_int (Kd.R_reads' HO_3.out).2.2 ((rd_T104 l0 x16_1).f4) p422 q422
                     obtain rfl : ad420 = ad422 := (by injection e422)
                     replace p422 := eq_true p422
                     replace q422 := eq_true q422
                     go_wp2_with (first | ((with_reducible refine gate_builtin (b := .append) (xs := #[.tmp 114, .tmp 116]) rfl ?_); at_builtin; refine Kd.R_append (Kd.int .i64) (w0 := w) w.heap.size rfl (.tmp 114) (.tmp 116) 24 2 (.int .i64 0) 8 rfl Try.underlying24 info2 rfl (by decide) (by omega) (.slice (some ad420) x3_1.length co63) x3_1 (wrap64 (1 + (wrap64 ((rd x3_1 (ji55)) + (rd x3_1 ((rd_T104 l0 x16_1).f4)))))) [.int .i64 (wrap64 (1 + (wrap64 ((rd x3_1 (ji55)) + (rd x3_1 ((rd_T104 l0 x16_1).f4))))))] (fun _ => True) (fun _ => False) rfl rfl ?aP (fun _ hk => hk.elim) ?aF ?aO ?aB ?aS ?aL ?_; (case aP => exact rfl); (case aB => exact hs_); (case aF => exact (fun _ _ => trivial)); (case aO => exact (R_up HO_3.out)); (case aS => exact (below_size hs_)); (case aL => have := LMc61.out; omega); intro v424 w64 ho hb hg hat; rw [← Ny423.out] at ho; have n0_ := Aside0.mk (blk_grown (g := gb410) (blk_up BK410.out) hg (Kd.R_ne HO_3.out BK410.out (by decide))); have n1_ := Aside0.mk (hb); have n2_ := Aside0.mk (ho); clear BK410; clear HB; clear HO_3; have BK410 := n0_; have HB := n1_; have HO425 := n2_; clear n0_ n1_ n2_; clear ho hb hg hat))
                     repeat (go_quiet (first | ((with_reducible refine gate_builtin (b := .append) (xs := #[.tmp 114, .tmp 116]) rfl ?_); at_builtin; refine Kd.R_append (Kd.int .i64) (w0 := w) w.heap.size rfl (.tmp 114) (.tmp 116) 24 2 (.int .i64 0) 8 rfl Try.underlying24 info2 rfl (by decide) (by omega) (.slice (some ad420) x3_1.length co63) x3_1 (wrap64 (1 + (wrap64 ((rd x3_1 (ji55)) + (rd x3_1 ((rd_T104 l0 x16_1).f4)))))) [.int .i64 (wrap64 (1 + (wrap64 ((rd x3_1 (ji55)) + (rd x3_1 ((rd_T104 l0 x16_1).f4))))))] (fun _ => True) (fun _ => False) rfl rfl ?aP (fun _ hk => hk.elim) ?aF ?aO ?aB ?aS ?aL ?_; (case aP => exact rfl); (case aB => exact hs_); (case aF => exact (fun _ _ => trivial)); (case aO => exact (R_up HO_3.out)); (case aS => exact (below_size hs_)); (case aL => have := LMc61.out; omega); intro v424 w64 ho hb hg hat; rw [← Ny423.out] at ho; have n0_ := Aside0.mk (blk_grown (g := gb410) (blk_up BK410.out) hg (Kd.R_ne HO_3.out BK410.out (by decide))); have n1_ := Aside0.mk (hb); have n2_ := Aside0.mk (ho); clear BK410; clear HB; clear HO_3; have BK410 := n0_; have HB := n1_; have HO425 := n2_; clear n0_ n1_ n2_; clear ho hb hg hat)); try go_wp2_with (first | ((with_reducible refine gate_builtin (b := .append) (xs := #[.tmp 114, .tmp 116]) rfl ?_); at_builtin; refine Kd.R_append (Kd.int .i64) (w0 := w) w.heap.size rfl (.tmp 114) (.tmp 116) 24 2 (.int .i64 0) 8 rfl Try.underlying24 info2 rfl (by decide) (by omega) (.slice (some ad420) x3_1.length co63) x3_1 (wrap64 (1 + (wrap64 ((rd x3_1 (ji55)) + (rd x3_1 ((rd_T104 l0 x16_1).f4)))))) [.int .i64 (wrap64 (1 + (wrap64 ((rd x3_1 (ji55)) + (rd x3_1 ((rd_T104 l0 x16_1).f4))))))] (fun _ => True) (fun _ => False) rfl rfl ?aP (fun _ hk => hk.elim) ?aF ?aO ?aB ?aS ?aL ?_; (case aP => exact rfl); (case aB => exact hs_); (case aF => exact (fun _ _ => trivial)); (case aO => exact (R_up HO_3.out)); (case aS => exact (below_size hs_)); (case aL => have := LMc61.out; omega); intro v424 w64 ho hb hg hat; rw [← Ny423.out] at ho; have n0_ := Aside0.mk (blk_grown (g := gb410) (blk_up BK410.out) hg (Kd.R_ne HO_3.out BK410.out (by decide))); have n1_ := Aside0.mk (hb); have n2_ := Aside0.mk (ho); clear BK410; clear HB; clear HO_3; have BK410 := n0_; have HB := n1_; have HO425 := n2_; clear n0_ n1_ n2_; clear ho hb hg hat)))
                     go_roundg kj23
                     case measure => have := HK1.out; have := HJ9.out; have := HJ23.out; omega
                     case rel => exact ⟨(y423), (wrap64 (x16_1 + 1)), vl_, H', ⟨by have := HK1.out; have := HJ9.out; have := HJ23.out; omega⟩, ⟨R_up HO425.out⟩, ⟨hs_⟩⟩
                    ·
                     rw [if_neg c58] at H
                     have c58b0 : (((rd_T104 l0 x16_1).f4) == (wrap64 ((ji55) - (rd x3_1 (ji55))))) = false := beq_eq_false_iff_ne.mpr c58
                     have c58b1 : (((rd_T104 l0 x16_1).f4) != (wrap64 ((ji55) - (rd x3_1 (ji55))))) = true := bne_iff_ne.mpr c58
                     obtain rfl := Option.some.inj H
                     have hcz65_0 : wc.cell? ⟨gb410, 0, none⟩ = some (.int .i64 ((rd_T104 l0 x16_1).f0)) := (blk_cell BK410.out 0).trans rfl
                     have hcz65_1 : wc.cell? ⟨gb410, 1, none⟩ = some (.int .i64 ((rd_T104 l0 x16_1).f1)) := (blk_cell BK410.out 1).trans rfl
                     have hcz65_2 : wc.cell? ⟨gb410, 2, none⟩ = some (.slice A409_2 ((rd_T104 l0 x16_1).f2).length c409_2) := (blk_cell BK410.out 2).trans rfl
                     have hcz65_3 : wc.cell? ⟨gb410, 3, none⟩ = some (.slice A409_3 ((rd_T104 l0 x16_1).f3).length c409_3) := (blk_cell BK410.out 3).trans rfl
                     have hcz65_4 : wc.cell? ⟨gb410, 4, none⟩ = some (.int .i64 ((rd_T104 l0 x16_1).f4)) := (blk_cell BK410.out 4).trans rfl
                     have hcz65_5 : wc.cell? ⟨gb410, 5, none⟩ = some (.int .i64 ((rd_T104 l0 x16_1).f5)) := (blk_cell BK410.out 5).trans rfl
                     have hfz65_0 := blk_frozen BK410.out 0
                     have hfz65_1 := blk_frozen BK410.out 1
                     have hfz65_2 := blk_frozen BK410.out 2
                     have hfz65_3 := blk_frozen BK410.out 3
                     have hfz65_4 := blk_frozen BK410.out 4
                     have hfz65_5 := blk_frozen BK410.out 5
                     obtain ⟨Ao66, co66, eo66⟩ := Kd.R_slice HO_3.out
                     subst eo66
                     have p420 : 0 ≤ ((ji55) : Int) := od_
                     have q420 : (ji55) < (x3_1.length : Int) := od_
                     obtain ⟨ad420, e420, hx420_0⟩ := Kd.at_int (Kd.R_reads' HO_3.out).2.2 (ji55) p420 q420
                     cases e420
                     replace p420 := eq_true p420
                     replace q420 := eq_true q420
                     go_wp2
                     repeat (go_quiet (fail); try go_wp2)
                     go_ret
                     exact ⟨by first | rfl | (simp [errW_none, errW_some] <;> rfl) | (simp only [← hji55]; first | rfl | (simp [errW_none, errW_some] <;> rfl)) | (simp [*, errW_none, errW_some] <;> rfl), hs_⟩
                  ·
                   rw [if_neg c52] at H
                   have c52b0 : (((rd_T104 l0 x16_1).f5) == (wrap64 (x16_1 - 1))) = false := beq_eq_false_iff_ne.mpr c52
                   have c52b1 : (((rd_T104 l0 x16_1).f5) != (wrap64 (x16_1 - 1))) = true := bne_iff_ne.mpr c52
                   obtain rfl := Option.some.inj H
                   have hcz67_0 : wc.cell? ⟨gb410, 0, none⟩ = some (.int .i64 ((rd_T104 l0 x16_1).f0)) := (blk_cell BK410.out 0).trans rfl
                   have hcz67_1 : wc.cell? ⟨gb410, 1, none⟩ = some (.int .i64 ((rd_T104 l0 x16_1).f1)) := (blk_cell BK410.out 1).trans rfl
                   have hcz67_2 : wc.cell? ⟨gb410, 2, none⟩ = some (.slice A409_2 ((rd_T104 l0 x16_1).f2).length c409_2) := (blk_cell BK410.out 2).trans rfl
                   have hcz67_3 : wc.cell? ⟨gb410, 3, none⟩ = some (.slice A409_3 ((rd_T104 l0 x16_1).f3).length c409_3) := (blk_cell BK410.out 3).trans rfl
                   have hcz67_4 : wc.cell? ⟨gb410, 4, none⟩ = some (.int .i64 ((rd_T104 l0 x16_1).f4)) := (blk_cell BK410.out 4).trans rfl
                   have hcz67_5 : wc.cell? ⟨gb410, 5, none⟩ = some (.int .i64 ((rd_T104 l0 x16_1).f5)) := (blk_cell BK410.out 5).trans rfl
                   have hfz67_0 := blk_frozen BK410.out 0
                   have hfz67_1 := blk_frozen BK410.out 1
                   have hfz67_2 := blk_frozen BK410.out 2
                   have hfz67_3 := blk_frozen BK410.out 3
                   have hfz67_4 := blk_frozen BK410.out 4
                   have hfz67_5 := blk_frozen BK410.out 5
                   go_wp2
                   repeat (go_quiet (fail); try go_wp2)
                   go_ret
                   exact ⟨ve_, hs_⟩
                ·
                 rw [if_neg c49] at H
                 have c49b0 : decide (9 < ((rd_T104 l0 x16_1).f0)) = false := decide_eq_false c49
                 clear c49
                 by_cases c68 : x3_1.length < 17592186044416
                 case neg => rw [if_neg c68] at H; exact absurd H (by simp)
                 rw [if_pos c68] at H
                 have LMc68 := Aside0.mk c68
                 clear c68
                 obtain ⟨y426, hy426⟩ : ∃ y_ : List Int, y_ = (x3_1 ++ [1]) := ⟨_, rfl⟩
                 replace H : (impl_TermsFault.l0 kj23 l0 y426 l0 (l0.length : Int) (wrap64 (x16_1 + 1))) = some r := by first | (rw [hy426]; with_reducible exact H) | (have H2_ := (Option.bind_some _ _).symm.trans H; rw [hy426]; with_reducible exact H2_) | (have H2_ := (Option.bind_some _ _).symm.trans H; with_reducible exact H2_) | with_reducible exact H | (rw [hy426]; exact H) | exact H
                 have Ny426 := Aside0.mk hy426
                 clear hy426
                 have H' := Aside0.mk H
                 clear H
                 have hcz69_0 : wc.cell? ⟨gb410, 0, none⟩ = some (.int .i64 ((rd_T104 l0 x16_1).f0)) := (blk_cell BK410.out 0).trans rfl
                 have hcz69_1 : wc.cell? ⟨gb410, 1, none⟩ = some (.int .i64 ((rd_T104 l0 x16_1).f1)) := (blk_cell BK410.out 1).trans rfl
                 have hcz69_2 : wc.cell? ⟨gb410, 2, none⟩ = some (.slice A409_2 ((rd_T104 l0 x16_1).f2).length c409_2) := (blk_cell BK410.out 2).trans rfl
                 have hcz69_3 : wc.cell? ⟨gb410, 3, none⟩ = some (.slice A409_3 ((rd_T104 l0 x16_1).f3).length c409_3) := (blk_cell BK410.out 3).trans rfl
                 have hcz69_4 : wc.cell? ⟨gb410, 4, none⟩ = some (.int .i64 ((rd_T104 l0 x16_1).f4)) := (blk_cell BK410.out 4).trans rfl
                 have hcz69_5 : wc.cell? ⟨gb410, 5, none⟩ = some (.int .i64 ((rd_T104 l0 x16_1).f5)) := (blk_cell BK410.out 5).trans rfl
                 have hfz69_0 := blk_frozen BK410.out 0
                 have hfz69_1 := blk_frozen BK410.out 1
                 have hfz69_2 := blk_frozen BK410.out 2
                 have hfz69_3 := blk_frozen BK410.out 3
                 have hfz69_4 := blk_frozen BK410.out 4
                 have hfz69_5 := blk_frozen BK410.out 5
                 go_wp2_with (first | ((with_reducible refine gate_builtin (b := .append) (xs := #[.tmp 114, .tmp 116]) rfl ?_); at_builtin; refine Kd.R_append (Kd.int .i64) (w0 := w) w.heap.size rfl (.tmp 114) (.tmp 116) 24 2 (.int .i64 0) 8 rfl Try.underlying24 info2 rfl (by decide) (by omega) u3 x3_1 1 [.int .i64 1] (fun _ => True) (fun _ => False) rfl rfl ?aP (fun _ hk => hk.elim) ?aF ?aO ?aB ?aS ?aL ?_; (case aP => exact rfl); (case aB => exact hs_); (case aF => exact (fun _ _ => trivial)); (case aO => exact (R_up HO_3.out)); (case aS => exact (below_size hs_)); (case aL => have := LMc68.out; omega); intro v427 w70 ho hb hg hat; rw [← Ny426.out] at ho; have n0_ := Aside0.mk (blk_grown (g := gb410) (blk_up BK410.out) hg (Kd.R_ne HO_3.out BK410.out (by decide))); have n1_ := Aside0.mk (hb); have n2_ := Aside0.mk (ho); clear BK410; clear HB; clear HO_3; have BK410 := n0_; have HB := n1_; have HO428 := n2_; clear n0_ n1_ n2_; clear ho hb hg hat))
                 repeat (go_quiet (first | ((with_reducible refine gate_builtin (b := .append) (xs := #[.tmp 114, .tmp 116]) rfl ?_); at_builtin; refine Kd.R_append (Kd.int .i64) (w0 := w) w.heap.size rfl (.tmp 114) (.tmp 116) 24 2 (.int .i64 0) 8 rfl Try.underlying24 info2 rfl (by decide) (by omega) u3 x3_1 1 [.int .i64 1] (fun _ => True) (fun _ => False) rfl rfl ?aP (fun _ hk => hk.elim) ?aF ?aO ?aB ?aS ?aL ?_; (case aP => exact rfl); (case aB => exact hs_); (case aF => exact (fun _ _ => trivial)); (case aO => exact (R_up HO_3.out)); (case aS => exact (below_size hs_)); (case aL => have := LMc68.out; omega); intro v427 w70 ho hb hg hat; rw [← Ny426.out] at ho; have n0_ := Aside0.mk (blk_grown (g := gb410) (blk_up BK410.out) hg (Kd.R_ne HO_3.out BK410.out (by decide))); have n1_ := Aside0.mk (hb); have n2_ := Aside0.mk (ho); clear BK410; clear HB; clear HO_3; have BK410 := n0_; have HB := n1_; have HO428 := n2_; clear n0_ n1_ n2_; clear ho hb hg hat)); try go_wp2_with (first | ((with_reducible refine gate_builtin (b := .append) (xs := #[.tmp 114, .tmp 116]) rfl ?_); at_builtin; refine Kd.R_append (Kd.int .i64) (w0 := w) w.heap.size rfl (.tmp 114) (.tmp 116) 24 2 (.int .i64 0) 8 rfl Try.underlying24 info2 rfl (by decide) (by omega) u3 x3_1 1 [.int .i64 1] (fun _ => True) (fun _ => False) rfl rfl ?aP (fun _ hk => hk.elim) ?aF ?aO ?aB ?aS ?aL ?_; (case aP => exact rfl); (case aB => exact hs_); (case aF => exact (fun _ _ => trivial)); (case aO => exact (R_up HO_3.out)); (case aS => exact (below_size hs_)); (case aL => have := LMc68.out; omega); intro v427 w70 ho hb hg hat; rw [← Ny426.out] at ho; have n0_ := Aside0.mk (blk_grown (g := gb410) (blk_up BK410.out) hg (Kd.R_ne HO_3.out BK410.out (by decide))); have n1_ := Aside0.mk (hb); have n2_ := Aside0.mk (ho); clear BK410; clear HB; clear HO_3; have BK410 := n0_; have HB := n1_; have HO428 := n2_; clear n0_ n1_ n2_; clear ho hb hg hat)))
                 go_roundg kj23
                 case measure => have := HK1.out; have := HJ9.out; have := HJ23.out; omega
                 case rel => exact ⟨(y426), (wrap64 (x16_1 + 1)), vl_, H', ⟨by have := HK1.out; have := HJ9.out; have := HJ23.out; omega⟩, ⟨R_up HO428.out⟩, ⟨hs_⟩⟩
           ·
            replace c23 := Bool.eq_false_iff.mpr c23
            subst c23
            (try rw [if_neg (show ¬ (false = true) by decide)] at H)
            obtain rfl := Option.some.inj H
            have hcz71_0 : wc.cell? ⟨gb410, 0, none⟩ = some (.int .i64 ((rd_T104 l0 x16_1).f0)) := (blk_cell BK410.out 0).trans rfl
            have hcz71_1 : wc.cell? ⟨gb410, 1, none⟩ = some (.int .i64 ((rd_T104 l0 x16_1).f1)) := (blk_cell BK410.out 1).trans rfl
            have hcz71_2 : wc.cell? ⟨gb410, 2, none⟩ = some (.slice A409_2 ((rd_T104 l0 x16_1).f2).length c409_2) := (blk_cell BK410.out 2).trans rfl
            have hcz71_3 : wc.cell? ⟨gb410, 3, none⟩ = some (.slice A409_3 ((rd_T104 l0 x16_1).f3).length c409_3) := (blk_cell BK410.out 3).trans rfl
            have hcz71_4 : wc.cell? ⟨gb410, 4, none⟩ = some (.int .i64 ((rd_T104 l0 x16_1).f4)) := (blk_cell BK410.out 4).trans rfl
            have hcz71_5 : wc.cell? ⟨gb410, 5, none⟩ = some (.int .i64 ((rd_T104 l0 x16_1).f5)) := (blk_cell BK410.out 5).trans rfl
            have hfz71_0 := blk_frozen BK410.out 0
            have hfz71_1 := blk_frozen BK410.out 1
            have hfz71_2 := blk_frozen BK410.out 2
            have hfz71_3 := blk_frozen BK410.out 3
            have hfz71_4 := blk_frozen BK410.out 4
            have hfz71_5 := blk_frozen BK410.out 5
            go_wp2_with (first | (go_at_call 93; (with_reducible refine (impl_Term_isNum.calls kj9 ((rd_T104 l0 x16_1).f0) ((rd_T104 l0 x16_1).f1) _ _ ((rd_T104 l0 x16_1).f2) _ _ ((rd_T104 l0 x16_1).f3) ((rd_T104 l0 x16_1).f4) ((rd_T104 l0 x16_1).f5) true _ ?_ ?_ ?_ ?_ A20.out).mono ?_); exact C_up (Kd.C_below HR409_2.out HB.out); exact HC409_2.out; exact C_up (Kd.C_below HR409_3.out HB.out); exact HC409_3.out; rintro e w72 ⟨rfl, hb⟩; replace HO_3 := Aside0.mk (Kd.R_below (R_up HO_3.out) hb); replace BK410 := Aside0.mk (blk_below (g := gb410) (blk_up BK410.out) hb); replace HB := Aside0.mk (below_step hs_ hb); (try clear hb); have hcz73_0 : w72.cell? ⟨gb410, 0, none⟩ = some (.int .i64 ((rd_T104 l0 x16_1).f0)) := (blk_cell BK410.out 0).trans rfl; have hcz73_1 : w72.cell? ⟨gb410, 1, none⟩ = some (.int .i64 ((rd_T104 l0 x16_1).f1)) := (blk_cell BK410.out 1).trans rfl; have hcz73_2 : w72.cell? ⟨gb410, 2, none⟩ = some (.slice A409_2 ((rd_T104 l0 x16_1).f2).length c409_2) := (blk_cell BK410.out 2).trans rfl; have hcz73_3 : w72.cell? ⟨gb410, 3, none⟩ = some (.slice A409_3 ((rd_T104 l0 x16_1).f3).length c409_3) := (blk_cell BK410.out 3).trans rfl; have hcz73_4 : w72.cell? ⟨gb410, 4, none⟩ = some (.int .i64 ((rd_T104 l0 x16_1).f4)) := (blk_cell BK410.out 4).trans rfl; have hcz73_5 : w72.cell? ⟨gb410, 5, none⟩ = some (.int .i64 ((rd_T104 l0 x16_1).f5)) := (blk_cell BK410.out 5).trans rfl; have hfz73_0 := blk_frozen BK410.out 0; have hfz73_1 := blk_frozen BK410.out 1; have hfz73_2 := blk_frozen BK410.out 2; have hfz73_3 := blk_frozen BK410.out 3; have hfz73_4 := blk_frozen BK410.out 4; have hfz73_5 := blk_frozen BK410.out 5) | (go_at_call 94; (with_reducible refine (impl_Term_areCodes.calls kj9 ((rd_T104 l0 x16_1).f0) ((rd_T104 l0 x16_1).f1) _ _ ((rd_T104 l0 x16_1).f2) _ _ ((rd_T104 l0 x16_1).f3) ((rd_T104 l0 x16_1).f4) ((rd_T104 l0 x16_1).f5) false _ ?_ ?_ ?_ ?_ A22.out).mono ?_); exact C_up (Kd.C_below HR409_2.out HB.out); exact HC409_2.out; exact C_up (Kd.C_below HR409_3.out HB.out); exact HC409_3.out; rintro e w74 ⟨rfl, hb⟩; replace HO_3 := Aside0.mk (Kd.R_below (R_up HO_3.out) hb); replace BK410 := Aside0.mk (blk_below (g := gb410) (blk_up BK410.out) hb); replace HB := Aside0.mk (below_step hs_ hb); (try clear hb)))
            repeat (go_quiet (first | (go_at_call 93; (with_reducible refine (impl_Term_isNum.calls kj9 ((rd_T104 l0 x16_1).f0) ((rd_T104 l0 x16_1).f1) _ _ ((rd_T104 l0 x16_1).f2) _ _ ((rd_T104 l0 x16_1).f3) ((rd_T104 l0 x16_1).f4) ((rd_T104 l0 x16_1).f5) true _ ?_ ?_ ?_ ?_ A20.out).mono ?_); exact C_up (Kd.C_below HR409_2.out HB.out); exact HC409_2.out; exact C_up (Kd.C_below HR409_3.out HB.out); exact HC409_3.out; rintro e w72 ⟨rfl, hb⟩; replace HO_3 := Aside0.mk (Kd.R_below (R_up HO_3.out) hb); replace BK410 := Aside0.mk (blk_below (g := gb410) (blk_up BK410.out) hb); replace HB := Aside0.mk (below_step hs_ hb); (try clear hb); have hcz73_0 : w72.cell? ⟨gb410, 0, none⟩ = some (.int .i64 ((rd_T104 l0 x16_1).f0)) := (blk_cell BK410.out 0).trans rfl; have hcz73_1 : w72.cell? ⟨gb410, 1, none⟩ = some (.int .i64 ((rd_T104 l0 x16_1).f1)) := (blk_cell BK410.out 1).trans rfl; have hcz73_2 : w72.cell? ⟨gb410, 2, none⟩ = some (.slice A409_2 ((rd_T104 l0 x16_1).f2).length c409_2) := (blk_cell BK410.out 2).trans rfl; have hcz73_3 : w72.cell? ⟨gb410, 3, none⟩ = some (.slice A409_3 ((rd_T104 l0 x16_1).f3).length c409_3) := (blk_cell BK410.out 3).trans rfl; have hcz73_4 : w72.cell? ⟨gb410, 4, none⟩ = some (.int .i64 ((rd_T104 l0 x16_1).f4)) := (blk_cell BK410.out 4).trans rfl; have hcz73_5 : w72.cell? ⟨gb410, 5, none⟩ = some (.int .i64 ((rd_T104 l0 x16_1).f5)) := (blk_cell BK410.out 5).trans rfl; have hfz73_0 := blk_frozen BK410.out 0; have hfz73_1 := blk_frozen BK410.out 1; have hfz73_2 := blk_frozen BK410.out 2; have hfz73_3 := blk_frozen BK410.out 3; have hfz73_4 := blk_frozen BK410.out 4; have hfz73_5 := blk_frozen BK410.out 5) | (go_at_call 94; (with_reducible refine (impl_Term_areCodes.calls kj9 ((rd_T104 l0 x16_1).f0) ((rd_T104 l0 x16_1).f1) _ _ ((rd_T104 l0 x16_1).f2) _ _ ((rd_T104 l0 x16_1).f3) ((rd_T104 l0 x16_1).f4) ((rd_T104 l0 x16_1).f5) false _ ?_ ?_ ?_ ?_ A22.out).mono ?_); exact C_up (Kd.C_below HR409_2.out HB.out); exact HC409_2.out; exact C_up (Kd.C_below HR409_3.out HB.out); exact HC409_3.out; rintro e w74 ⟨rfl, hb⟩; replace HO_3 := Aside0.mk (Kd.R_below (R_up HO_3.out) hb); replace BK410 := Aside0.mk (blk_below (g := gb410) (blk_up BK410.out) hb); replace HB := Aside0.mk (below_step hs_ hb); (try clear hb))); try go_wp2_with (first | (go_at_call 93; (with_reducible refine (impl_Term_isNum.calls kj9 ((rd_T104 l0 x16_1).f0) ((rd_T104 l0 x16_1).f1) _ _ ((rd_T104 l0 x16_1).f2) _ _ ((rd_T104 l0 x16_1).f3) ((rd_T104 l0 x16_1).f4) ((rd_T104 l0 x16_1).f5) true _ ?_ ?_ ?_ ?_ A20.out).mono ?_); exact C_up (Kd.C_below HR409_2.out HB.out); exact HC409_2.out; exact C_up (Kd.C_below HR409_3.out HB.out); exact HC409_3.out; rintro e w72 ⟨rfl, hb⟩; replace HO_3 := Aside0.mk (Kd.R_below (R_up HO_3.out) hb); replace BK410 := Aside0.mk (blk_below (g := gb410) (blk_up BK410.out) hb); replace HB := Aside0.mk (below_step hs_ hb); (try clear hb); have hcz73_0 : w72.cell? ⟨gb410, 0, none⟩ = some (.int .i64 ((rd_T104 l0 x16_1).f0)) := (blk_cell BK410.out 0).trans rfl; have hcz73_1 : w72.cell? ⟨gb410, 1, none⟩ = some (.int .i64 ((rd_T104 l0 x16_1).f1)) := (blk_cell BK410.out 1).trans rfl; have hcz73_2 : w72.cell? ⟨gb410, 2, none⟩ = some (.slice A409_2 ((rd_T104 l0 x16_1).f2).length c409_2) := (blk_cell BK410.out 2).trans rfl; have hcz73_3 : w72.cell? ⟨gb410, 3, none⟩ = some (.slice A409_3 ((rd_T104 l0 x16_1).f3).length c409_3) := (blk_cell BK410.out 3).trans rfl; have hcz73_4 : w72.cell? ⟨gb410, 4, none⟩ = some (.int .i64 ((rd_T104 l0 x16_1).f4)) := (blk_cell BK410.out 4).trans rfl; have hcz73_5 : w72.cell? ⟨gb410, 5, none⟩ = some (.int .i64 ((rd_T104 l0 x16_1).f5)) := (blk_cell BK410.out 5).trans rfl; have hfz73_0 := blk_frozen BK410.out 0; have hfz73_1 := blk_frozen BK410.out 1; have hfz73_2 := blk_frozen BK410.out 2; have hfz73_3 := blk_frozen BK410.out 3; have hfz73_4 := blk_frozen BK410.out 4; have hfz73_5 := blk_frozen BK410.out 5) | (go_at_call 94; (with_reducible refine (impl_Term_areCodes.calls kj9 ((rd_T104 l0 x16_1).f0) ((rd_T104 l0 x16_1).f1) _ _ ((rd_T104 l0 x16_1).f2) _ _ ((rd_T104 l0 x16_1).f3) ((rd_T104 l0 x16_1).f4) ((rd_T104 l0 x16_1).f5) false _ ?_ ?_ ?_ ?_ A22.out).mono ?_); exact C_up (Kd.C_below HR409_2.out HB.out); exact HC409_2.out; exact C_up (Kd.C_below HR409_3.out HB.out); exact HC409_3.out; rintro e w74 ⟨rfl, hb⟩; replace HO_3 := Aside0.mk (Kd.R_below (R_up HO_3.out) hb); replace BK410 := Aside0.mk (blk_below (g := gb410) (blk_up BK410.out) hb); replace HB := Aside0.mk (below_step hs_ hb); (try clear hb))))
            go_ret
            exact ⟨ve_, hs_⟩
          ·
           replace c21 := Bool.eq_false_iff.mpr c21
           subst c21
           (try rw [if_neg (show ¬ (false = true) by decide)] at H)
           obtain rfl := Option.some.inj H
           have hcz75_0 : wc.cell? ⟨gb410, 0, none⟩ = some (.int .i64 ((rd_T104 l0 x16_1).f0)) := (blk_cell BK410.out 0).trans rfl
           have hcz75_1 : wc.cell? ⟨gb410, 1, none⟩ = some (.int .i64 ((rd_T104 l0 x16_1).f1)) := (blk_cell BK410.out 1).trans rfl
           have hcz75_2 : wc.cell? ⟨gb410, 2, none⟩ = some (.slice A409_2 ((rd_T104 l0 x16_1).f2).length c409_2) := (blk_cell BK410.out 2).trans rfl
           have hcz75_3 : wc.cell? ⟨gb410, 3, none⟩ = some (.slice A409_3 ((rd_T104 l0 x16_1).f3).length c409_3) := (blk_cell BK410.out 3).trans rfl
           have hcz75_4 : wc.cell? ⟨gb410, 4, none⟩ = some (.int .i64 ((rd_T104 l0 x16_1).f4)) := (blk_cell BK410.out 4).trans rfl
           have hcz75_5 : wc.cell? ⟨gb410, 5, none⟩ = some (.int .i64 ((rd_T104 l0 x16_1).f5)) := (blk_cell BK410.out 5).trans rfl
           have hfz75_0 := blk_frozen BK410.out 0
           have hfz75_1 := blk_frozen BK410.out 1
           have hfz75_2 := blk_frozen BK410.out 2
           have hfz75_3 := blk_frozen BK410.out 3
           have hfz75_4 := blk_frozen BK410.out 4
           have hfz75_5 := blk_frozen BK410.out 5
           go_wp2_with (first | (go_at_call 93; (with_reducible refine (impl_Term_isNum.calls kj9 ((rd_T104 l0 x16_1).f0) ((rd_T104 l0 x16_1).f1) _ _ ((rd_T104 l0 x16_1).f2) _ _ ((rd_T104 l0 x16_1).f3) ((rd_T104 l0 x16_1).f4) ((rd_T104 l0 x16_1).f5) false _ ?_ ?_ ?_ ?_ A20.out).mono ?_); exact C_up (Kd.C_below HR409_2.out HB.out); exact HC409_2.out; exact C_up (Kd.C_below HR409_3.out HB.out); exact HC409_3.out; rintro e w76 ⟨rfl, hb⟩; replace HO_3 := Aside0.mk (Kd.R_below (R_up HO_3.out) hb); replace BK410 := Aside0.mk (blk_below (g := gb410) (blk_up BK410.out) hb); replace HB := Aside0.mk (below_step hs_ hb); (try clear hb)))
           repeat (go_quiet (first | (go_at_call 93; (with_reducible refine (impl_Term_isNum.calls kj9 ((rd_T104 l0 x16_1).f0) ((rd_T104 l0 x16_1).f1) _ _ ((rd_T104 l0 x16_1).f2) _ _ ((rd_T104 l0 x16_1).f3) ((rd_T104 l0 x16_1).f4) ((rd_T104 l0 x16_1).f5) false _ ?_ ?_ ?_ ?_ A20.out).mono ?_); exact C_up (Kd.C_below HR409_2.out HB.out); exact HC409_2.out; exact C_up (Kd.C_below HR409_3.out HB.out); exact HC409_3.out; rintro e w76 ⟨rfl, hb⟩; replace HO_3 := Aside0.mk (Kd.R_below (R_up HO_3.out) hb); replace BK410 := Aside0.mk (blk_below (g := gb410) (blk_up BK410.out) hb); replace HB := Aside0.mk (below_step hs_ hb); (try clear hb))); try go_wp2_with (first | (go_at_call 93; (with_reducible refine (impl_Term_isNum.calls kj9 ((rd_T104 l0 x16_1).f0) ((rd_T104 l0 x16_1).f1) _ _ ((rd_T104 l0 x16_1).f2) _ _ ((rd_T104 l0 x16_1).f3) ((rd_T104 l0 x16_1).f4) ((rd_T104 l0 x16_1).f5) false _ ?_ ?_ ?_ ?_ A20.out).mono ?_); exact C_up (Kd.C_below HR409_2.out HB.out); exact HC409_2.out; exact C_up (Kd.C_below HR409_3.out HB.out); exact HC409_3.out; rintro e w76 ⟨rfl, hb⟩; replace HO_3 := Aside0.mk (Kd.R_below (R_up HO_3.out) hb); replace BK410 := Aside0.mk (blk_below (g := gb410) (blk_up BK410.out) hb); replace HB := Aside0.mk (below_step hs_ hb); (try clear hb))))
           go_ret
           exact ⟨ve_, hs_⟩
     ·
      rw [if_neg c7] at H
      have c7b0 : decide (x16_1 < (l0.length : Int)) = false := decide_eq_false c7
      clear c7
      obtain ⟨ji77, hji77⟩ : ∃ j_ : Int, (wrap64 ((l0.length : Int) - 1)) = j_ := ⟨_, rfl⟩
      replace H : (if 0 ≤ (ji77) then (if (ji77) < (x3_1.length : Int) then ((impl_Term.f l0).bind fun t408 => (if (rd x3_1 (ji77)) = t408 then (some 0) else (some 1))) else (none)) else (none)) = some r := by first | (rw [hji77] at H; exact H) | (simp only [hji77] at H ⊢; exact H)
      have hji77w : (IntKind.i64.wrap ((l0.length : Int) - 1)) = ji77 := (i64_w _).trans hji77
      by_cases c78 : 0 ≤ (ji77)
      case neg => rw [if_neg c78] at H; exact absurd H (by simp)
      rw [if_pos c78] at H
      have c78b0 : decide (0 ≤ (ji77)) = true := decide_eq_true c78
      clear c78
      by_cases c79 : (ji77) < (x3_1.length : Int)
      case neg => rw [if_neg c79] at H; exact absurd H (by simp)
      rw [if_pos c79] at H
      have c79b0 : decide ((ji77) < (x3_1.length : Int)) = true := decide_eq_true c79
      clear c79
      replace H := Option.bind_eq_some_iff.mp H
      obtain ⟨t408, A800, H⟩ := H
      (try dsimp only at H)
      have A80 := Aside0.mk A800
      clear A800
      by_cases c81 : (rd x3_1 (ji77)) = t408
      ·
       rw [if_pos c81] at H
       have c81b0 : ((rd x3_1 (ji77)) == t408) = true := beq_iff_eq.mpr c81
       have c81b1 : ((rd x3_1 (ji77)) != t408) = false := bne_eq_false_iff_eq.mpr c81
       clear c81
       obtain rfl := Option.some.inj H
       obtain ⟨Ao82, co82, eo82⟩ := Kd.R_slice HO_3.out
       subst eo82
       have p407 : 0 ≤ ((ji77) : Int) := od_
       have q407 : (ji77) < (x3_1.length : Int) := od_
       obtain ⟨ad407, e407, hx407_0⟩ := Kd.at_int (Kd.R_reads' HO_3.out).2.2 (ji77) p407 q407
       cases e407
       replace p407 := eq_true p407
       replace q407 := eq_true q407
       go_wp2_with (first | (go_at_call 91; (with_reducible refine (impl_Term.calls _ _ l0 t408 _ ?_ ?_ A80.out).mono ?_); exact C_up (Kd.C_below HR0.out HB.out); exact HC0.out; rintro e w' ⟨rfl, ⟨nd, rfl⟩⟩; (try first | exact ⟨rfl, _, World.drewN_drewN _ _ _⟩ | exact ⟨rfl, _, Eq.trans (World.drewN_drewN _ _ _) (congrArg (World.drewN _) (Nat.add_assoc _ _ _))⟩)))
       repeat (go_quiet (first | (go_at_call 91; (with_reducible refine (impl_Term.calls _ _ l0 t408 _ ?_ ?_ A80.out).mono ?_); exact C_up (Kd.C_below HR0.out HB.out); exact HC0.out; rintro e w' ⟨rfl, ⟨nd, rfl⟩⟩; (try first | exact ⟨rfl, _, World.drewN_drewN _ _ _⟩ | exact ⟨rfl, _, Eq.trans (World.drewN_drewN _ _ _) (congrArg (World.drewN _) (Nat.add_assoc _ _ _))⟩))); try go_wp2_with (first | (go_at_call 91; (with_reducible refine (impl_Term.calls _ _ l0 t408 _ ?_ ?_ A80.out).mono ?_); exact C_up (Kd.C_below HR0.out HB.out); exact HC0.out; rintro e w' ⟨rfl, ⟨nd, rfl⟩⟩; (try first | exact ⟨rfl, _, World.drewN_drewN _ _ _⟩ | exact ⟨rfl, _, Eq.trans (World.drewN_drewN _ _ _) (congrArg (World.drewN _) (Nat.add_assoc _ _ _))⟩))))
       go_ret
       exact ⟨by first | rfl | (simp [errW_none, errW_some] <;> rfl) | (simp only [← hji77]; first | rfl | (simp [errW_none, errW_some] <;> rfl)) | (simp [*, errW_none, errW_some] <;> rfl), hb_⟩
      ·
       rw [if_neg c81] at H
       have c81b0 : ((rd x3_1 (ji77)) == t408) = false := beq_eq_false_iff_ne.mpr c81
       have c81b1 : ((rd x3_1 (ji77)) != t408) = true := bne_iff_ne.mpr c81
       obtain rfl := Option.some.inj H
       obtain ⟨Ao83, co83, eo83⟩ := Kd.R_slice HO_3.out
       subst eo83
       have p407 : 0 ≤ ((ji77) : Int) := od_
       have q407 : (ji77) < (x3_1.length : Int) := od_
       obtain ⟨ad407, e407, hx407_0⟩ := Kd.at_int (Kd.R_reads' HO_3.out).2.2 (ji77) p407 q407
       cases e407
       replace p407 := eq_true p407
       replace q407 := eq_true q407
       go_wp2_with (first | (go_at_call 91; (with_reducible refine (impl_Term.calls _ _ l0 t408 _ ?_ ?_ A80.out).mono ?_); exact C_up (Kd.C_below HR0.out HB.out); exact HC0.out; rintro e w' ⟨rfl, ⟨nd, rfl⟩⟩; (try first | exact ⟨rfl, _, World.drewN_drewN _ _ _⟩ | exact ⟨rfl, _, Eq.trans (World.drewN_drewN _ _ _) (congrArg (World.drewN _) (Nat.add_assoc _ _ _))⟩)))
       repeat (go_quiet (first | (go_at_call 91; (with_reducible refine (impl_Term.calls _ _ l0 t408 _ ?_ ?_ A80.out).mono ?_); exact C_up (Kd.C_below HR0.out HB.out); exact HC0.out; rintro e w' ⟨rfl, ⟨nd, rfl⟩⟩; (try first | exact ⟨rfl, _, World.drewN_drewN _ _ _⟩ | exact ⟨rfl, _, Eq.trans (World.drewN_drewN _ _ _) (congrArg (World.drewN _) (Nat.add_assoc _ _ _))⟩))); try go_wp2_with (first | (go_at_call 91; (with_reducible refine (impl_Term.calls _ _ l0 t408 _ ?_ ?_ A80.out).mono ?_); exact C_up (Kd.C_below HR0.out HB.out); exact HC0.out; rintro e w' ⟨rfl, ⟨nd, rfl⟩⟩; (try first | exact ⟨rfl, _, World.drewN_drewN _ _ _⟩ | exact ⟨rfl, _, Eq.trans (World.drewN_drewN _ _ _) (congrArg (World.drewN _) (Nat.add_assoc _ _ _))⟩))))
       go_ret
       exact ⟨by first | rfl | (simp [errW_none, errW_some] <;> rfl) | (simp only [← hji77]; first | rfl | (simp [errW_none, errW_some] <;> rfl)) | (simp [*, errW_none, errW_some] <;> rfl), hb_⟩
 ·
  replace c4 := Bool.eq_false_iff.mpr c4
  subst c4
  (try rw [if_neg (show ¬ (false = true) by decide)] at H)
  obtain rfl := Option.some.inj H
  go_enter Try.func45, Try.ntmps45
  go_wp2_with (first | (go_at_call 91; (with_reducible refine (impl_Term.calls _ _ l0 t402 _ ?_ ?_ A2.out).mono ?_); exact C_up HR0.out; exact HC0.out; rintro e w' ⟨rfl, ⟨nd, rfl⟩⟩; (try first | exact ⟨rfl, _, World.drewN_drewN _ _ _⟩ | exact ⟨rfl, _, Eq.trans (World.drewN_drewN _ _ _) (congrArg (World.drewN _) (Nat.add_assoc _ _ _))⟩)) | (go_at_call 37; (with_reducible refine (impl_within.calls t402 1 12 false _ A3.out).mono ?_); rintro e w' ⟨rfl, ⟨nd, rfl⟩⟩; (try first | exact ⟨rfl, _, World.drewN_drewN _ _ _⟩ | exact ⟨rfl, _, Eq.trans (World.drewN_drewN _ _ _) (congrArg (World.drewN _) (Nat.add_assoc _ _ _))⟩)))
  repeat (go_quiet (first | (go_at_call 91; (with_reducible refine (impl_Term.calls _ _ l0 t402 _ ?_ ?_ A2.out).mono ?_); exact C_up HR0.out; exact HC0.out; rintro e w' ⟨rfl, ⟨nd, rfl⟩⟩; (try first | exact ⟨rfl, _, World.drewN_drewN _ _ _⟩ | exact ⟨rfl, _, Eq.trans (World.drewN_drewN _ _ _) (congrArg (World.drewN _) (Nat.add_assoc _ _ _))⟩)) | (go_at_call 37; (with_reducible refine (impl_within.calls t402 1 12 false _ A3.out).mono ?_); rintro e w' ⟨rfl, ⟨nd, rfl⟩⟩; (try first | exact ⟨rfl, _, World.drewN_drewN _ _ _⟩ | exact ⟨rfl, _, Eq.trans (World.drewN_drewN _ _ _) (congrArg (World.drewN _) (Nat.add_assoc _ _ _))⟩))); try go_wp2_with (first | (go_at_call 91; (with_reducible refine (impl_Term.calls _ _ l0 t402 _ ?_ ?_ A2.out).mono ?_); exact C_up HR0.out; exact HC0.out; rintro e w' ⟨rfl, ⟨nd, rfl⟩⟩; (try first | exact ⟨rfl, _, World.drewN_drewN _ _ _⟩ | exact ⟨rfl, _, Eq.trans (World.drewN_drewN _ _ _) (congrArg (World.drewN _) (Nat.add_assoc _ _ _))⟩)) | (go_at_call 37; (with_reducible refine (impl_within.calls t402 1 12 false _ A3.out).mono ?_); rintro e w' ⟨rfl, ⟨nd, rfl⟩⟩; (try first | exact ⟨rfl, _, World.drewN_drewN _ _ _⟩ | exact ⟨rfl, _, Eq.trans (World.drewN_drewN _ _ _) (congrArg (World.drewN _) (Nat.add_assoc _ _ _))⟩))))
  go_ret
  exact ⟨ve_, hb_⟩

end Go.Proofs.Ytnehephjliankaa.PFnExactCmdFault

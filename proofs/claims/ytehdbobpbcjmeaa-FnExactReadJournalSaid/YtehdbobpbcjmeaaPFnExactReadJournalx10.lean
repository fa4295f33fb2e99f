/- Functions of the program as Lean functions, each with the proof that its call comes to what that function says (texts written by a program of this session). Conditions: those that stand in each theorem. -/
import Derived.Test.YtehdbobpbcjmeaaPFnExactReadJournalx0
import Derived.Test.YtehdbobpbcjmeaaPFnExactReadJournalx1
import Derived.Test.YtehdbobpbcjmeaaPFnExactReadJournalx9
namespace Go.Proofs.Ytehdbobpbcjmeaa.PFnExactReadJournal
open Go.RowKit Go.Proofs.YtehdbobpbcjmeaaW.PrintWords Go.Proofs.YtehdbobpbcjmeaaW.PrintLast Go.Proofs.YtehdbobpbcjmeaaW.PrintMore
attribute [local go_sem] max2_int min2_int max_two min_two max_three min_three max_four min_four   -- for this text's walks alone
set_option linter.unusedVariables false
set_option linter.unusedSimpArgs false

/-! ### impl_readOps: function 55 -/
def impl_readOps.l0 : Nat → List Int → List (S37) → Int → Option ((List (S37)) × Int)
 | 0, _, _, _ => none
 | k + 1, x0, x4, x5 => if 0 ≤ x5 then (if x5 ≤ (x0.length : Int) then ((impl_readOp.f k (x0.drop (x5 : Int).toNat)).bind fun bt490 => (if bt490.2.2.2.2.2.2.2.2 = 0 then (some (x4, x5)) else (if x4.length < 1256584717458 then (impl_readOps.l0 k x0 (x4 ++ [(⟨bt490.1, bt490.2.1, bt490.2.2.1, bt490.2.2.2.1, bt490.2.2.2.2.1, bt490.2.2.2.2.2.1, bt490.2.2.2.2.2.2.1, bt490.2.2.2.2.2.2.2.1⟩ : S37)]) (wrap64 (x5 + bt490.2.2.2.2.2.2.2.2))) else (none)))) else (none)) else (none)
def impl_readOps.f (k : Nat) (l0 : List Int) : Option ((List (S37)) × Int) := impl_readOps.l0 k l0 (([] : List (S37))) 0
set_option maxHeartbeats 8000000 in
set_option maxRecDepth 100000 in
theorem impl_readOps.calls (k : Nat) (A0 : Option Addr) (c0 : Nat) (l0 : List Int) (r1 : List (S37)) (r2 : Int) (w : World) (hr0 : Kd.C (Kd.int .u8) w A0 l0.length l0) (hc0 : l0.length ≤ c0) (h : impl_readOps.f k l0 = some (r1, r2)) :
 Calls Try.prog 55 #[.slice A0 l0.length c0] w fun e w' => ∃ v0_ : Value, e = .returned (.tuple #[v0_, .int .i64 r2]) ∧ Kd.S k37 37 w' w.heap.size (fun _ => True) v0_ r1 ∧ Below w.heap.size w w' := by
 have hu37 := Try.underlying37
 have HR0 := Aside0.mk hr0
 have HC0 := Aside0.mk hc0
 clear hr0 hc0
 have HB := Aside0.mk (Below.refl w.heap.size w)
 have H : (impl_readOps.l0 k l0 (([] : List (S37))) 0) = some (r1, r2) := h
 clear h
 obtain ⟨y486, hy486⟩ : ∃ y_ : List (S37), y_ = (([] : List (S37))) := ⟨_, rfl⟩
 replace H : (impl_readOps.l0 k l0 y486 0) = some (r1, r2) := by first | (rw [hy486]; with_reducible exact H) | (have H2_ := (Option.bind_some _ _).symm.trans H; rw [hy486]; with_reducible exact H2_) | (have H2_ := (Option.bind_some _ _).symm.trans H; with_reducible exact H2_) | with_reducible exact H | (rw [hy486]; exact H) | exact H
 have Ny486 := Aside0.mk hy486
 clear hy486
 have H' := Aside0.mk H
 clear H
 go_enter Try.func55, Try.ntmps55
 go_wp2_with (first | ((with_reducible refine gate_dst (N := 8) rfl ?_); refine Kd.S_lit k37 _ 37 ?hg (N := 8) ?hd (xs := ([] : List (S37))) (inner := []) (ok := fun _ => True) (okp := fun _ => True) ?hr ?hp (fun _ hk => hk) trivial (Below.refl _ _) (Nat.le_refl _) (by simp) ?_; (case hd => rfl); (case hg => rfl); (case hr => first | (go_simp; done) | (go_simp; rfl)); (case hp => exact (Reps.none _ _)); intro v487 w2 ho3 hb hg_ hnew_; clear hg_ hnew_; (first | rw [← Ny486.out] at ho3 | (simp only [Int.reduceToNat] at ho3; rw [← Ny486.out] at ho3)); have HO488 := Aside0.mk (Kd.S_lower ho3 (below_size (hb_))); replace HB := Aside0.mk (below_step (hb_) hb); clear hb ho3))
 go_loopg [4, 5] k (fun kq v4 v5 w' => ∃ (x4_1 : List (S37)) (x5_1 : Int), v5 = .int .i64 x5_1 ∧ Aside0 (impl_readOps.l0 kq l0 x4_1 x5_1 = some (r1, r2)) ∧ Aside0 (kq ≤ k) ∧ Aside0 (Kd.S k37 37 w' w.heap.size (fun _ => True) v4 x4_1) ∧ Aside0 (Below w.heap.size w w'))
 case atStart => exact ⟨(y486), (0), vl_, H', ⟨Nat.le_refl _⟩, ⟨S_up HO488.out⟩, ⟨hb_⟩⟩
 case round =>
  clear H'
  obtain ⟨x4_1, x5_1, rfl, HA, HK1, HO_4, HB⟩ := hrel
  cases gk with
  | zero => exact absurd HA.out (by simp [impl_readOps.l0])
  | succ k1 =>
    have H := HA.out
    clear HA
    simp only [impl_readOps.l0] at H
    by_cases c4 : 0 ≤ x5_1
    ·
     rw [if_pos c4] at H
     have c4b0 := eq_true c4
     have c4b1 : decide (0 ≤ x5_1) = true := decide_eq_true c4
     clear c4
     by_cases c5 : x5_1 ≤ (l0.length : Int)
     case neg => rw [if_neg c5] at H; exact absurd H (by simp)
     rw [if_pos c5] at H
     have c5b0 := eq_true c5
     have c5b1 : decide (x5_1 ≤ (l0.length : Int)) = true := decide_eq_true c5
     clear c5
     replace H := Option.bind_eq_some_iff.mp H
     obtain ⟨⟨t490, t491, t492, t493, t496, t497, t498, t499, t502⟩, A60, H⟩ := H
     (try dsimp only at H)
     have A6 := Aside0.mk A60
     clear A60
     by_cases c7 : t502 = 0
     ·
      rw [if_pos c7] at H
      have c7b0 : (t502 == 0) = true := beq_iff_eq.mpr c7
      have c7b1 : (t502 != 0) = false := bne_eq_false_iff_eq.mpr c7
      clear c7
      simp only [Option.some.injEq, Prod.mk.injEq] at H
      obtain ⟨rfl, rfl⟩ := H
      obtain ⟨i08, hi08, _, hsz8, _⟩ := info_parts info5
      obtain ⟨A8, hcut8, hA8, hC8⟩ := print_drop_of (P := Try.prog) (Value.int .u8) 0 24 5 .i64 Try.underlying24 hi08 hsz8 A0 c0 l0 x5_1 (od_) (od_) HC0.out
      have HR489 := Aside0.mk (Kd.C_of_reads (h1 := fun _ => rfl) (hA8 _ (Kd.reads_of_C HR0.out)))
      have HC489 := Aside0.mk hC8
      clear hA8 hC8 hi08 hsz8
      go_wp2_with (first | ((with_reducible refine gate_callee (f := 51) rfl ?_); refine goesL_ (some 13) rfl rfl Try.func51 (by kernel_rfl) rfl #[.slice A8 (l0.drop (x5_1 : Int).toNat).length (c0 - x5_1.toNat)] rfl (by (try simp only [List.map_toArray, List.map_cons, List.map_nil]); first | done | (rw [show (l0.drop (x5_1 : Int).toNat).length = (l0.length - x5_1.toNat) from List.length_drop] <;> rfl) | rfl | (simp only [List.length_drop, List.length_take]; rfl)) ?_; (with_reducible refine (impl_readOp.calls k1 _ _ (l0.drop (x5_1 : Int).toNat) t490 t491 t492 t493 t496 t497 t498 t499 t502 _ ?_ ?_ A6.out).mono ?_); exact C_up (Kd.C_below HR489.out HB.out); exact HC489.out; rintro e w9 ⟨v494, v500, rfl, ho0, ho1, hb⟩; refine ⟨_, rfl, ?_⟩; replace HO_4 := Aside0.mk (Kd.S_mono (Kd.S_told (Kd.S_told (Kd.S_old (S_up HO_4.out) hb) (Kd.R_base ho0)) (Kd.R_base ho1)) (fun _ h_ => h_.1)); have HO495 := Aside0.mk (Kd.R_lower ho0 (below_size (hb_))); have HO501 := Aside0.mk (Kd.R_lower ho1 (below_size (hb_))); replace HB := Aside0.mk (below_step (hb_) hb); (try clear hb); (try clear ho0); (try clear ho1)) | ((with_reducible refine gate_dst (N := 6) rfl ?_); refine box_event ?hg (N := 6) ?hd (cs := #[.int .i64 0, .string (⟨#[]⟩ : ByteArray), .string (⟨#[]⟩ : ByteArray), .slice none 0 0, .int .i64 0, .int .i64 0, .int .i64 0, .slice none 0 0]) (t := 37) ?hr ?_; (case hd => rfl); (case hg => rfl); (case hr => first | (go_simp; done) | (go_simp; rfl)); intro gb503 hg w10 hbox hb; have n0_ := Aside0.mk (Kd.S_below (Kd.S_elderB (S_up HO_4.out) gb503 (Nat.le_of_eq hg.symm)) hb); have n1_ := Aside0.mk (Kd.R_below (R_up HO495.out) hb); have n2_ := Aside0.mk (Kd.R_below (R_up HO501.out) hb); have n3_ := Aside0.mk (below_step (hb_) hb); have n4_ := Aside0.mk (hbox); have n5_ := Aside0.mk ((by rw [hg]; exact (below_size (hb_)) : w.heap.size ≤ gb503)); have n6_ := Aside0.mk ((by rw [hg]; exact (below_size (hb_)) : w.heap.size ≤ gb503)); clear HO_4; clear HO495; clear HO501; clear HB; have HO_4 := n0_; have HO495 := n1_; have HO501 := n2_; have HB := n3_; have BK503 := n4_; have GW503 := n5_; have GE503 := n6_; clear n0_ n1_ n2_ n3_ n4_ n5_ n6_; clear hb hbox hg; obtain ⟨hcz11_0, hcz11_1, hcz11_2, _, _, _, _, _⟩ := blk_cells8 BK503.out; obtain ⟨hfz11_0, hfz11_1, hfz11_2, _, _, _, _, _⟩ := blk_frozen8 BK503.out; obtain ⟨Ao12, co12, eo12⟩ := Kd.R_slice HO495.out; subst eo12; obtain ⟨Ao13, co13, eo13⟩ := Kd.R_slice HO501.out; subst eo13))
      go_ret2
      exact ⟨_, ve_, by (with_reducible repeat (first | apply Kd.S_alloc | apply Kd.S_drewN | apply Kd.S_drew)); exact Kd.S_mono (Kd.S_far (p := ⟨gb503, 7, none⟩) (Kd.S_far (p := ⟨gb503, 6, none⟩) (Kd.S_far (p := ⟨gb503, 5, none⟩) (Kd.S_far (p := ⟨gb503, 4, none⟩) (Kd.S_far (p := ⟨gb503, 3, none⟩) (Kd.S_far (p := ⟨gb503, 2, none⟩) (Kd.S_far (p := ⟨gb503, 1, none⟩) (Kd.S_far (p := ⟨gb503, 0, none⟩) (Kd.S_mono HO_4.out (fun k_ hk => (⟨hk, hk.2⟩ : _ ∧ k_ ≠ gb503))) (fun _ hk => hk.2) (.int .i64 t490)) (fun _ hk => hk.2) (.string t491)) (fun _ hk => hk.2) (.string t492)) (fun _ hk => hk.2) (.slice Ao12 t493.length co12)) (fun _ hk => hk.2) (.int .i64 t496)) (fun _ hk => hk.2) (.int .i64 t497)) (fun _ hk => hk.2) (.int .i64 t498)) (fun _ hk => hk.2) (.slice Ao13 t499.length co13)) (fun _ hk => trivial), hs_⟩
     ·
      rw [if_neg c7] at H
      have c7b0 : (t502 == 0) = false := beq_eq_false_iff_ne.mpr c7
      have c7b1 : (t502 != 0) = true := bne_iff_ne.mpr c7
      by_cases c14 : x4_1.length < 1256584717458
      case neg => rw [if_neg c14] at H; exact absurd H (by simp)
      rw [if_pos c14] at H
      have LMc14 := Aside0.mk c14
      clear c14
      obtain ⟨y504, hy504⟩ : ∃ y_ : List (S37), y_ = (x4_1 ++ [(⟨t490, t491, t492, t493, t496, t497, t498, t499⟩ : S37)]) := ⟨_, rfl⟩
      replace H : (impl_readOps.l0 k1 l0 y504 (wrap64 (x5_1 + t502))) = some (r1, r2) := by first | (rw [hy504]; with_reducible exact H) | (have H2_ := (Option.bind_some _ _).symm.trans H; rw [hy504]; with_reducible exact H2_) | (have H2_ := (Option.bind_some _ _).symm.trans H; with_reducible exact H2_) | with_reducible exact H | (rw [hy504]; exact H) | exact H
      have Ny504 := Aside0.mk hy504
      clear hy504
      have H' := Aside0.mk H
      clear H
      obtain ⟨i015, hi015, _, hsz15, _⟩ := info_parts info5
      obtain ⟨A15, hcut15, hA15, hC15⟩ := print_drop_of (P := Try.prog) (Value.int .u8) 0 24 5 .i64 Try.underlying24 hi015 hsz15 A0 c0 l0 x5_1 (od_) (od_) HC0.out
      have HR489 := Aside0.mk (Kd.C_of_reads (h1 := fun _ => rfl) (hA15 _ (Kd.reads_of_C HR0.out)))
      have HC489 := Aside0.mk hC15
      clear hA15 hC15 hi015 hsz15
      go_wp2_with (first | ((with_reducible refine gate_callee (f := 51) rfl ?_); refine goesL_ (some 13) rfl rfl Try.func51 (by kernel_rfl) rfl #[.slice A15 (l0.drop (x5_1 : Int).toNat).length (c0 - x5_1.toNat)] rfl (by (try simp only [List.map_toArray, List.map_cons, List.map_nil]); first | done | (rw [show (l0.drop (x5_1 : Int).toNat).length = (l0.length - x5_1.toNat) from List.length_drop] <;> rfl) | rfl | (simp only [List.length_drop, List.length_take]; rfl)) ?_; (with_reducible refine (impl_readOp.calls k1 _ _ (l0.drop (x5_1 : Int).toNat) t490 t491 t492 t493 t496 t497 t498 t499 t502 _ ?_ ?_ A6.out).mono ?_); exact C_up (Kd.C_below HR489.out HB.out); exact HC489.out; rintro e w16 ⟨v494, v500, rfl, ho0, ho1, hb⟩; refine ⟨_, rfl, ?_⟩; replace HO_4 := Aside0.mk (Kd.S_mono (Kd.S_told (Kd.S_told (Kd.S_old (S_up HO_4.out) hb) (Kd.R_base ho0)) (Kd.R_base ho1)) (fun _ h_ => h_.1)); have HO495 := Aside0.mk (Kd.R_lower ho0 (below_size (hb_))); have HO501 := Aside0.mk (Kd.R_lower ho1 (below_size (hb_))); replace HB := Aside0.mk (below_step (hb_) hb); (try clear hb); (try clear ho0); (try clear ho1)) | ((with_reducible refine gate_dst (N := 6) rfl ?_); refine box_event ?hg (N := 6) ?hd (cs := #[.int .i64 0, .string (⟨#[]⟩ : ByteArray), .string (⟨#[]⟩ : ByteArray), .slice none 0 0, .int .i64 0, .int .i64 0, .int .i64 0, .slice none 0 0]) (t := 37) ?hr ?_; (case hd => rfl); (case hg => rfl); (case hr => first | (go_simp; done) | (go_simp; rfl)); intro gb503 hg w17 hbox hb; have n0_ := Aside0.mk (Kd.S_below (Kd.S_elderB (S_up HO_4.out) gb503 (Nat.le_of_eq hg.symm)) hb); have n1_ := Aside0.mk (Kd.R_below (R_up HO495.out) hb); have n2_ := Aside0.mk (Kd.R_below (R_up HO501.out) hb); have n3_ := Aside0.mk (below_step (hb_) hb); have n4_ := Aside0.mk (hbox); have n5_ := Aside0.mk ((by rw [hg]; exact (below_size (hb_)) : w.heap.size ≤ gb503)); have n6_ := Aside0.mk ((by rw [hg]; exact (below_size (hb_)) : w.heap.size ≤ gb503)); clear HO_4; clear HO495; clear HO501; clear HB; have HO_4 := n0_; have HO495 := n1_; have HO501 := n2_; have HB := n3_; have BK503 := n4_; have GW503 := n5_; have GE503 := n6_; clear n0_ n1_ n2_ n3_ n4_ n5_ n6_; clear hb hbox hg; obtain ⟨_, _, _, _, _, _, _, _⟩ := blk_cells8 BK503.out; obtain ⟨_, _, _, _, _, _, _, _⟩ := blk_frozen8 BK503.out; obtain ⟨Ao19, co19, eo19⟩ := Kd.R_slice HO495.out; subst eo19; obtain ⟨Ao20, co20, eo20⟩ := Kd.R_slice HO501.out; subst eo20) | ((with_reducible refine gate_store (t := 37) (p := 6) rfl ?_); refine store_event (t := 37) (p := 6) (v := ?vo_w21) (w1 := ((((((((w17.setCell ⟨gb503, 0, none⟩ (.int .i64 t490)).setCell ⟨gb503, 1, none⟩ (.string t491)).setCell ⟨gb503, 2, none⟩ (.string t492)).setCell ⟨gb503, 3, none⟩ (.slice Ao19 t493.length co19)).setCell ⟨gb503, 4, none⟩ (.int .i64 t496)).setCell ⟨gb503, 5, none⟩ (.int .i64 t497)).setCell ⟨gb503, 6, none⟩ (.int .i64 t498)).setCell ⟨gb503, 7, none⟩ (.slice Ao20 t499.length co20))) ?hg ?ho ?hn ?hr ?_; (case ho => rfl); (case hg => rfl); (case hn => rfl); (case hr => first | (go_simp; done) | (go_simp; rfl)); intro w21 hw; have n0_ : Aside0 (Kd.S k37 37 w21 w.heap.size (fun k_ => some k_ ≠ (.slice Ao19 t493.length co19 : Value).ownBlock ∧ some k_ ≠ (.slice Ao20 t499.length co20 : Value).ownBlock ∧ k_ ≠ gb503) u4 x4_1) := ⟨(by rw [hw]; exact (by (with_reducible repeat (first | apply Kd.S_alloc | apply Kd.S_drewN | apply Kd.S_drew)); exact Kd.S_mono (Kd.S_far (p := ⟨gb503, 7, none⟩) (Kd.S_far (p := ⟨gb503, 6, none⟩) (Kd.S_far (p := ⟨gb503, 5, none⟩) (Kd.S_far (p := ⟨gb503, 4, none⟩) (Kd.S_far (p := ⟨gb503, 3, none⟩) (Kd.S_far (p := ⟨gb503, 2, none⟩) (Kd.S_far (p := ⟨gb503, 1, none⟩) (Kd.S_far (p := ⟨gb503, 0, none⟩) (Kd.S_mono HO_4.out (fun k_ hk => (⟨hk, hk.2⟩ : _ ∧ k_ ≠ gb503))) (fun _ hk => hk.2) (.int .i64 t490)) (fun _ hk => hk.2) (.string t491)) (fun _ hk => hk.2) (.string t492)) (fun _ hk => hk.2) (.slice Ao19 t493.length co19)) (fun _ hk => hk.2) (.int .i64 t496)) (fun _ hk => hk.2) (.int .i64 t497)) (fun _ hk => hk.2) (.int .i64 t498)) (fun _ hk => hk.2) (.slice Ao20 t499.length co20)) (fun _ hk => ⟨hk.1.1.1.2, ⟨hk.1.1.2, hk.1.2⟩⟩)))⟩; have n1_ : Aside0 (Kd.R (Kd.int .i64) 2 w21 w.heap.size (fun _ => True) (.slice Ao19 t493.length co19) t493) := ⟨(by rw [hw]; exact (by (with_reducible repeat (first | apply Kd.R_alloc | apply Kd.R_drewN | apply Kd.R_drew)); exact Kd.R_mono (Kd.R_far (p := ⟨gb503, 7, none⟩) (Kd.R_far (p := ⟨gb503, 6, none⟩) (Kd.R_far (p := ⟨gb503, 5, none⟩) (Kd.R_far (p := ⟨gb503, 4, none⟩) (Kd.R_far (p := ⟨gb503, 3, none⟩) (Kd.R_far (p := ⟨gb503, 2, none⟩) (Kd.R_far (p := ⟨gb503, 1, none⟩) (Kd.R_far (p := ⟨gb503, 0, none⟩) (Kd.R_types HO495.out BK503.out (by decide)) (fun _ hk => hk.2) (.int .i64 t490)) (fun _ hk => hk.2) (.string t491)) (fun _ hk => hk.2) (.string t492)) (fun _ hk => hk.2) (.slice Ao19 t493.length co19)) (fun _ hk => hk.2) (.int .i64 t496)) (fun _ hk => hk.2) (.int .i64 t497)) (fun _ hk => hk.2) (.int .i64 t498)) (fun _ hk => hk.2) (.slice Ao20 t499.length co20)) (fun _ hk => trivial)))⟩; have n2_ : Aside0 (Kd.R (Kd.int .u8) 5 w21 w.heap.size (fun _ => True) (.slice Ao20 t499.length co20) t499) := ⟨(by rw [hw]; exact (by (with_reducible repeat (first | apply Kd.R_alloc | apply Kd.R_drewN | apply Kd.R_drew)); exact Kd.R_mono (Kd.R_far (p := ⟨gb503, 7, none⟩) (Kd.R_far (p := ⟨gb503, 6, none⟩) (Kd.R_far (p := ⟨gb503, 5, none⟩) (Kd.R_far (p := ⟨gb503, 4, none⟩) (Kd.R_far (p := ⟨gb503, 3, none⟩) (Kd.R_far (p := ⟨gb503, 2, none⟩) (Kd.R_far (p := ⟨gb503, 1, none⟩) (Kd.R_far (p := ⟨gb503, 0, none⟩) (Kd.R_types HO501.out BK503.out (by decide)) (fun _ hk => hk.2) (.int .i64 t490)) (fun _ hk => hk.2) (.string t491)) (fun _ hk => hk.2) (.string t492)) (fun _ hk => hk.2) (.slice Ao19 t493.length co19)) (fun _ hk => hk.2) (.int .i64 t496)) (fun _ hk => hk.2) (.int .i64 t497)) (fun _ hk => hk.2) (.int .i64 t498)) (fun _ hk => hk.2) (.slice Ao20 t499.length co20)) (fun _ hk => trivial)))⟩; have n3_ : Aside0 (w21.heap[gb503]? = some (.cells #[.int .i64 t490, .string t491, .string t492, .slice Ao19 t493.length co19, .int .i64 t496, .int .i64 t497, .int .i64 t498, .slice Ao20 t499.length co20] 37 (0, 0))) := ⟨(by rw [hw]; exact (by (with_reducible repeat (first | refine blk_drewN ?_ _ | refine blk_drew ?_ | refine blk_alloc ?_ _)); refine blk_put (cs := #[.int .i64 t490, .string t491, .string t492, .slice Ao19 t493.length co19, .int .i64 t496, .int .i64 t497, .int .i64 t498, .slice none 0 0]) ?_ 7 _ rfl; (with_reducible repeat (first | refine blk_drewN ?_ _ | refine blk_drew ?_ | refine blk_alloc ?_ _)); refine blk_put (cs := #[.int .i64 t490, .string t491, .string t492, .slice Ao19 t493.length co19, .int .i64 t496, .int .i64 t497, .int .i64 0, .slice none 0 0]) ?_ 6 _ rfl; (with_reducible repeat (first | refine blk_drewN ?_ _ | refine blk_drew ?_ | refine blk_alloc ?_ _)); refine blk_put (cs := #[.int .i64 t490, .string t491, .string t492, .slice Ao19 t493.length co19, .int .i64 t496, .int .i64 0, .int .i64 0, .slice none 0 0]) ?_ 5 _ rfl; (with_reducible repeat (first | refine blk_drewN ?_ _ | refine blk_drew ?_ | refine blk_alloc ?_ _)); refine blk_put (cs := #[.int .i64 t490, .string t491, .string t492, .slice Ao19 t493.length co19, .int .i64 0, .int .i64 0, .int .i64 0, .slice none 0 0]) ?_ 4 _ rfl; (with_reducible repeat (first | refine blk_drewN ?_ _ | refine blk_drew ?_ | refine blk_alloc ?_ _)); refine blk_put (cs := #[.int .i64 t490, .string t491, .string t492, .slice none 0 0, .int .i64 0, .int .i64 0, .int .i64 0, .slice none 0 0]) ?_ 3 _ rfl; (with_reducible repeat (first | refine blk_drewN ?_ _ | refine blk_drew ?_ | refine blk_alloc ?_ _)); refine blk_put (cs := #[.int .i64 t490, .string t491, .string (⟨#[]⟩ : ByteArray), .slice none 0 0, .int .i64 0, .int .i64 0, .int .i64 0, .slice none 0 0]) ?_ 2 _ rfl; (with_reducible repeat (first | refine blk_drewN ?_ _ | refine blk_drew ?_ | refine blk_alloc ?_ _)); refine blk_put (cs := #[.int .i64 t490, .string (⟨#[]⟩ : ByteArray), .string (⟨#[]⟩ : ByteArray), .slice none 0 0, .int .i64 0, .int .i64 0, .int .i64 0, .slice none 0 0]) ?_ 1 _ rfl; (with_reducible repeat (first | refine blk_drewN ?_ _ | refine blk_drew ?_ | refine blk_alloc ?_ _)); refine blk_put (cs := #[.int .i64 0, .string (⟨#[]⟩ : ByteArray), .string (⟨#[]⟩ : ByteArray), .slice none 0 0, .int .i64 0, .int .i64 0, .int .i64 0, .slice none 0 0]) ?_ 0 _ rfl; (with_reducible repeat (first | refine blk_drewN ?_ _ | refine blk_drew ?_ | refine blk_alloc ?_ _)); exact BK503.out))⟩; have n4_ : Aside0 (Below w.heap.size w w21) := ⟨(by rw [hw]; exact (hs_))⟩; clear hw; clear HO_4; clear HO495; clear HO501; clear BK503; clear HB; have HO_4 := n0_; have HO495 := n1_; have HO501 := n2_; have BK503 := n3_; have HB := n4_; clear n0_ n1_ n2_ n3_ n4_; obtain ⟨_, _, _, _, _, _, _, _⟩ := blk_cells8 BK503.out; obtain ⟨_, _, _, _, _, _, _, _⟩ := blk_frozen8 BK503.out) | ((with_reducible refine gate_builtin (b := .append) (xs := #[.tmp 20, .tmp 22]) rfl ?_); at_builtin; refine Kd.S_append k37 (w0 := w) w.heap.size rfl (.tmp 20) (.tmp 22) 28 37 (.agg #[(.int .i64 0), (.string ⟨#[]⟩), (.string ⟨#[]⟩), (.slice none 0 0), (.int .i64 0), (.int .i64 0), (.int .i64 0), (.slice none 0 0)]) 112 rfl Try.underlying28 info37 rfl (by decide) (by omega) u4 x4_1 (⟨t490, t491, t492, t493, t496, t497, t498, t499⟩ : S37) [.int .i64 t490, .string t491, .string t492, .slice Ao19 t493.length co19, .int .i64 t496, .int .i64 t497, .int .i64 t498, .slice Ao20 t499.length co20] (fun k_ => k_ ≠ gb503) (fun k_ => some k_ = (.slice Ao19 t493.length co19 : Value).ownBlock ∨ some k_ = (.slice Ao20 t499.length co20 : Value).ownBlock) rfl rfl ?aP (fun k_ hk_ => hk_.elim (fun h_ => ((Kd.R_mono (ok' := fun k_ => ((fun k_ => k_ ≠ gb503)) k_ ∧ some k_ ≠ (u4 : Value).ownBlock) (Kd.R_types (Kd.R_apart' (HO495.out) (Kd.S_typed HO_4.out) (by decide)) BK503.out (by decide)) (fun k_ hk => ⟨hk.2, hk.1.2⟩))).1 k_ h_.symm) (fun h_ => ((Kd.R_mono (ok' := fun k_ => ((fun k_ => k_ ≠ gb503)) k_ ∧ some k_ ≠ (u4 : Value).ownBlock) (Kd.R_types (Kd.R_apart' (HO501.out) (Kd.S_typed HO_4.out) (by decide)) BK503.out (by decide)) (fun k_ hk => ⟨hk.2, hk.1.2⟩))).1 k_ h_.symm)) ?aF ?aO ?aB ?aS ?aL ?_; (case aP => exact k37_mkM _ _ _ (⟨t490, t491, t492, t493, t496, t497, t498, t499⟩ : S37) (Kd.R_mono (Kd.R_tight rfl (Kd.R_mono (ok' := fun k_ => ((fun k_ => k_ ≠ gb503)) k_ ∧ some k_ ≠ (u4 : Value).ownBlock) (Kd.R_types (Kd.R_apart' (HO495.out) (Kd.S_typed HO_4.out) (by decide)) BK503.out (by decide)) (fun k_ hk => ⟨hk.2, hk.1.2⟩))) (fun _ h_ => Or.inl h_)) (Kd.R_mono (Kd.R_tight rfl (Kd.R_mono (ok' := fun k_ => ((fun k_ => k_ ≠ gb503)) k_ ∧ some k_ ≠ (u4 : Value).ownBlock) (Kd.R_types (Kd.R_apart' (HO501.out) (Kd.S_typed HO_4.out) (by decide)) BK503.out (by decide)) (fun k_ hk => ⟨hk.2, hk.1.2⟩))) (fun _ h_ => Or.inr (h_)))); (case aB => exact (hs_)); (case aF => exact (fun k_ hk => Kd.freshB (g := gb503) (blk_up BK503.out) k_ hk)); (case aO => exact (by (with_reducible repeat (first | apply Kd.S_alloc | apply Kd.S_drewN | apply Kd.S_drew)); exact Kd.S_mono HO_4.out (fun k_ hk => ⟨hk.2.2, fun e_ => e_.elim (fun h_ => hk.1 h_) (fun h_ => hk.2.1 h_)⟩))); (case aS => exact (below_size (hs_))); (case aL => have := LMc14.out; omega); intro v505 w23 ho hb hg hat; rw [← Ny504.out] at ho; have n0_ := Aside0.mk (blk_grown (g := gb503) (blk_up BK503.out) hg (Kd.S_away HO_4.out (fun _ hk => hk.2.2))); have n1_ := Aside0.mk (hb); have n2_ := Aside0.mk (ho); clear BK503; clear HB; clear HO_4; clear HO495; clear HO501; have BK503 := n0_; have HB := n1_; have HO506 := n2_; clear n0_ n1_ n2_; clear ho hb hg hat))
      go_roundg k1
      case measure => have := HK1.out; omega
      case rel => exact ⟨(y504), (wrap64 (x5_1 + t502)), vl_, H', ⟨by have := HK1.out; omega⟩, ⟨by (with_reducible repeat (first | apply Kd.S_alloc | apply Kd.S_drewN | apply Kd.S_drew)); exact Kd.S_mono HO506.out (fun _ hk => trivial)⟩, ⟨hs_⟩⟩
    · rw [if_neg c4] at H
      exact absurd H (by simp)

/-! ### impl_ReadJournal: function 26 -/
def impl_ReadJournal.f (k : Nat) (l0 : List Int) : Option (Int × Int × (List (S37))) := if (l0.length : Int) > 8000 then (some (2, 0, ([] : List (S37)))) else ((impl_readOps.f k l0).bind fun bt508 => (some (0, bt508.2, bt508.1)))
set_option maxHeartbeats 8000000 in
set_option maxRecDepth 100000 in
theorem impl_ReadJournal.calls (k : Nat) (A0 : Option Addr) (c0 : Nat) (l0 : List Int) (r1 : Int) (r2 : Int) (r3 : List (S37)) (w : World) (hr0 : Kd.C (Kd.int .u8) w A0 l0.length l0) (hc0 : l0.length ≤ c0) (h : impl_ReadJournal.f k l0 = some (r1, r2, r3)) :
 Calls Try.prog 26 #[.slice A0 l0.length c0] w fun e w' => ∃ v2_ : Value, e = .returned (.agg #[.int .i64 r1, .int .i64 r2, v2_]) ∧ Kd.S k37 37 w' w.heap.size (fun _ => True) v2_ r3 ∧ Below w.heap.size w w' := by
 have hu48 := Try.underlying48
 have HR0 := Aside0.mk hr0
 have HC0 := Aside0.mk hc0
 clear hr0 hc0
 have HB := Aside0.mk (Below.refl w.heap.size w)
 have H : (if (l0.length : Int) > 8000 then (some (2, 0, ([] : List (S37)))) else ((impl_readOps.f k l0).bind fun bt508 => (some (0, bt508.2, bt508.1)))) = some (r1, r2, r3) := h
 clear h
 by_cases c2 : (l0.length : Int) > 8000
 ·
  rw [if_pos c2] at H
  have c2b0 : decide (8000 < (l0.length : Int)) = true := decide_eq_true c2
  have c2b1 : decide (8000 < l0.length) = true := decide_eq_true (by omega)
  clear c2
  simp only [Option.some.injEq, Prod.mk.injEq] at H
  obtain ⟨rfl, rfl, rfl⟩ := H
  go_enter Try.func26, Try.ntmps26
  go_wp2_with (first | ((with_reducible refine gate_dst (N := 2) rfl ?_); refine box_event ?hg (N := 2) ?hd (cs := #[.int .i64 0, .int .i64 0, .slice none 0 0]) (t := 48) ?hr ?_; (case hd => rfl); (case hg => rfl); (case hr => first | (go_simp; done) | (go_simp; rfl)); intro gb507 hg w3 hbox hb; have n0_ := Aside0.mk (below_step hs_ hb); have n1_ := Aside0.mk (hbox); have n2_ := Aside0.mk ((by rw [hg]; exact (below_size hs_) : w.heap.size ≤ gb507)); have n3_ := Aside0.mk ((by rw [hg]; exact (below_size hs_) : w.heap.size ≤ gb507)); clear HB; have HB := n0_; have BK507 := n1_; have GW507 := n2_; have GE507 := n3_; clear n0_ n1_ n2_ n3_; clear hb hbox hg; have hcz4_0 : w3.cell? ⟨gb507, 0, none⟩ = some (.int .i64 0) := (blk_cell BK507.out 0).trans rfl; have hcz4_1 : w3.cell? ⟨gb507, 1, none⟩ = some (.int .i64 0) := (blk_cell BK507.out 1).trans rfl; have hcz4_2 : w3.cell? ⟨gb507, 2, none⟩ = some (.slice none 0 0) := (blk_cell BK507.out 2).trans rfl; have hfz4_0 := blk_frozen BK507.out 0; have hfz4_1 := blk_frozen BK507.out 1; have hfz4_2 := blk_frozen BK507.out 2))
  refine bodyPost_ret (results_cell_row rfl _ _ gb507 48 #[.int .i64 2, .int .i64 0, .slice none 0 0] (0, 0) _ rfl (by (with_reducible repeat (first | refine blk_drewN ?_ _ | refine blk_drew ?_ | refine blk_alloc ?_ _)); refine blk_put (cs := #[.int .i64 2, .int .i64 0, .slice none 0 0]) ?_ 2 _ rfl; (with_reducible repeat (first | refine blk_drewN ?_ _ | refine blk_drew ?_ | refine blk_alloc ?_ _)); refine blk_put (cs := #[.int .i64 2, .int .i64 0, .slice none 0 0]) ?_ 1 _ rfl; (with_reducible repeat (first | refine blk_drewN ?_ _ | refine blk_drew ?_ | refine blk_alloc ?_ _)); refine blk_put (cs := #[.int .i64 0, .int .i64 0, .slice none 0 0]) ?_ 0 _ rfl; (with_reducible repeat (first | refine blk_drewN ?_ _ | refine blk_drew ?_ | refine blk_alloc ?_ _)); exact BK507.out) Try.underlying48 rfl (by kernel_rfl)) rfl ?_
  exact ⟨_, ve_, by first | exact Kd.S_nil _ _ _ _ _ | exact Kd.N_nil _ _ _ _ _ | exact Kd.V_nil _ _ _ _ _ | exact Kd.Q_nil _ _ _ _ _ | exact Kd.R_nil _ _ _ _ _, hs_⟩
 ·
  rw [if_neg c2] at H
  have c2b0 : decide (8000 < (l0.length : Int)) = false := decide_eq_false c2
  have c2b1 : decide (8000 < l0.length) = false := decide_eq_false (by omega)
  clear c2
  replace H := Option.bind_eq_some_iff.mp H
  obtain ⟨⟨t508, t509⟩, A50, H⟩ := H
  replace H : (some (0, t509, t508)) = some (r1, r2, r3) := H
  have A5 := Aside0.mk A50
  clear A50
  simp only [Option.some.injEq, Prod.mk.injEq] at H
  obtain ⟨rfl, rfl, rfl⟩ := H
  go_enter Try.func26, Try.ntmps26
  go_wp2_with (first | ((with_reducible refine gate_dst (N := 2) rfl ?_); refine box_event ?hg (N := 2) ?hd (cs := #[.int .i64 0, .int .i64 0, .slice none 0 0]) (t := 48) ?hr ?_; (case hd => rfl); (case hg => rfl); (case hr => first | (go_simp; done) | (go_simp; rfl)); intro gb507 hg w6 hbox hb; have n0_ := Aside0.mk (below_step hs_ hb); have n1_ := Aside0.mk (hbox); have n2_ := Aside0.mk ((by rw [hg]; exact (below_size hs_) : w.heap.size ≤ gb507)); have n3_ := Aside0.mk ((by rw [hg]; exact (below_size hs_) : w.heap.size ≤ gb507)); clear HB; have HB := n0_; have BK507 := n1_; have GW507 := n2_; have GE507 := n3_; clear n0_ n1_ n2_ n3_; clear hb hbox hg) | ((with_reducible refine gate_callee (f := 55) rfl ?_); refine goesY_ (some 11) Try.func55 #[.slice A0 l0.length c0] rfl ?_; (with_reducible refine (impl_readOps.calls k _ _ l0 t508 t509 _ ?_ ?_ A5.out).mono ?_); exact C_up (Kd.C_below HR0.out HB.out); exact HC0.out; rintro e w7 ⟨v510, rfl, ho0, hb⟩; refine ⟨_, rfl, ?_⟩; have HO511 := Aside0.mk (Kd.S_lower ho0 (below_size (hs_))); replace BK507 := Aside0.mk (blk_below (g := gb507) (blk_up BK507.out) hb); replace HB := Aside0.mk (below_step (hs_) hb); (try clear hb); (try clear ho0); obtain ⟨Ao8, co8, eo8⟩ := Kd.S_slice HO511.out; subst eo8; have hcz9_0 : w7.cell? ⟨gb507, 0, none⟩ = some (.int .i64 0) := (blk_cell BK507.out 0).trans rfl; have hcz9_1 : w7.cell? ⟨gb507, 1, none⟩ = some (.int .i64 0) := (blk_cell BK507.out 1).trans rfl; have hcz9_2 : w7.cell? ⟨gb507, 2, none⟩ = some (.slice none 0 0) := (blk_cell BK507.out 2).trans rfl; have hfz9_0 := blk_frozen BK507.out 0; have hfz9_1 := blk_frozen BK507.out 1; have hfz9_2 := blk_frozen BK507.out 2))
  refine bodyPost_ret (results_cell_row rfl _ _ gb507 48 #[.int .i64 0, .int .i64 t509, .slice Ao8 t508.length co8] (0, 0) _ rfl (by (with_reducible repeat (first | refine blk_drewN ?_ _ | refine blk_drew ?_ | refine blk_alloc ?_ _)); refine blk_put (cs := #[.int .i64 0, .int .i64 t509, .slice none 0 0]) ?_ 2 _ rfl; (with_reducible repeat (first | refine blk_drewN ?_ _ | refine blk_drew ?_ | refine blk_alloc ?_ _)); refine blk_put (cs := #[.int .i64 0, .int .i64 0, .slice none 0 0]) ?_ 1 _ rfl; (with_reducible repeat (first | refine blk_drewN ?_ _ | refine blk_drew ?_ | refine blk_alloc ?_ _)); refine blk_put (cs := #[.int .i64 0, .int .i64 0, .slice none 0 0]) ?_ 0 _ rfl; (with_reducible repeat (first | refine blk_drewN ?_ _ | refine blk_drew ?_ | refine blk_alloc ?_ _)); exact BK507.out) Try.underlying48 rfl (by kernel_rfl)) rfl ?_
  exact ⟨_, ve_, by (with_reducible repeat (first | apply Kd.S_alloc | apply Kd.S_drewN | apply Kd.S_drew)); exact Kd.S_mono (Kd.S_far (p := ⟨gb507, 2, none⟩) (Kd.S_far (p := ⟨gb507, 1, none⟩) (Kd.S_far (p := ⟨gb507, 0, none⟩) (Kd.S_types HO511.out BK507.out (by decide)) (fun _ hk => hk.2) (.int .i64 0)) (fun _ hk => hk.2) (.int .i64 t509)) (fun _ hk => hk.2) (.slice Ao8 t508.length co8)) (fun _ hk => trivial), hs_⟩

/-! ### laws_eqInt64S: function 83 -/
def laws_eqInt64S.l0 : Nat → List Int → List Int → Int → Option (Bool)
 | 0, _, _, _ => none
 | k + 1, x0, x1, x5 => if x5 < (x0.length : Int) then (if 0 ≤ x5 then (if x5 < (x1.length : Int) then (if (rd x0 x5) = (rd x1 x5) then (laws_eqInt64S.l0 k x0 x1 (wrap64 (x5 + 1))) else (none)) else (none)) else (none)) else (some true)
def laws_eqInt64S.f (k : Nat) (l0 : List Int) (l1 : List Int) : Option (Bool) := if (l0.length : Int) = (l1.length : Int) then (laws_eqInt64S.l0 k l0 l1 0) else (none)
set_option maxHeartbeats 8000000 in
set_option maxRecDepth 100000 in
theorem laws_eqInt64S.calls (k : Nat) (A0 : Option Addr) (c0 : Nat) (l0 : List Int) (A1 : Option Addr) (c1 : Nat) (l1 : List Int) (r : Bool) (w : World) (hr0 : Kd.C (Kd.int .i64) w A0 l0.length l0) (hc0 : l0.length ≤ c0) (hr1 : Kd.C (Kd.int .i64) w A1 l1.length l1) (hc1 : l1.length ≤ c1) (h : laws_eqInt64S.f k l0 l1 = some r) :
 Calls Try.prog 83 #[.slice A0 l0.length c0, .slice A1 l1.length c1] w fun e w' => e = .returned (.bool r) ∧ Drawn0 w w' := by
 have HR0 := Aside0.mk hr0
 have HC0 := Aside0.mk hc0
 clear hr0 hc0
 have HR1 := Aside0.mk hr1
 have HC1 := Aside0.mk hc1
 clear hr1 hc1
 have H : (if (l0.length : Int) = (l1.length : Int) then (laws_eqInt64S.l0 k l0 l1 0) else (none)) = some r := h
 clear h
 by_cases c3 : (l0.length : Int) = (l1.length : Int)
 ·
  rw [if_pos c3] at H
  have c3b0 : ((l0.length : Int) == (l1.length : Int)) = true := beq_iff_eq.mpr c3
  have c3b1 : ((l0.length : Int) != (l1.length : Int)) = false := bne_eq_false_iff_eq.mpr c3
  have c3b2 : (l0.length == l1.length) = true := by first | simpa using c3 | (simp at c3 ⊢; omega)
  clear c3
  have H' := Aside0.mk H
  clear H
  go_enter Try.func83, Try.ntmps83
  go_wp2
  repeat (go_quiet (fail); try go_wp2)
  go_loopg [5] k (fun kq v5 w' => ∃ (x5_1 : Int), v5 = .int .i64 x5_1 ∧ Aside0 (laws_eqInt64S.l0 kq l0 l1 x5_1 = some r) ∧ Aside0 (kq ≤ k) ∧ Drawn0 w w')
  case atStart => exact ⟨(0), vl_, H', ⟨Nat.le_refl _⟩, dr_⟩
  case round =>
   clear H'
   try clear c1
   try clear p2
   try clear c3
   try clear c3b0
   try clear c3b1
   try clear c3b2
   obtain ⟨x5_1, rfl, HA, HK1, ⟨m1, rfl⟩⟩ := hrel
   cases gk with
   | zero => exact absurd HA.out (by simp [laws_eqInt64S.l0])
   | succ k1 =>
     have H := HA.out
     clear HA
     simp only [laws_eqInt64S.l0] at H
     by_cases c4 : x5_1 < (l0.length : Int)
     ·
      rw [if_pos c4] at H
      have c4b0 : decide (x5_1 < (l0.length : Int)) = true := decide_eq_true c4
      clear c4
      by_cases c5 : 0 ≤ x5_1
      ·
       rw [if_pos c5] at H
       have c5b0 : decide (0 ≤ x5_1) = true := decide_eq_true c5
       clear c5
       by_cases c6 : x5_1 < (l1.length : Int)
       ·
        rw [if_pos c6] at H
        have c6b0 : decide (x5_1 < (l1.length : Int)) = true := decide_eq_true c6
        clear c6
        by_cases c7 : (rd l0 x5_1) = (rd l1 x5_1)
        ·
         rw [if_pos c7] at H
         have c7b0 : ((rd l0 x5_1) == (rd l1 x5_1)) = true := beq_iff_eq.mpr c7
         have c7b1 : ((rd l0 x5_1) != (rd l1 x5_1)) = false := bne_eq_false_iff_eq.mpr c7
         clear c7
         have H' := Aside0.mk H
         clear H
         have p512 : 0 ≤ (x5_1 : Int) := od_
         have q512 : x5_1 < (l0.length : Int) := od_
         obtain ⟨ad512, e512, hx512_0⟩ := Kd.at_int HR0.out x5_1 p512 q512
         cases e512
         replace p512 := eq_true p512
         replace q512 := eq_true q512
         have p513 : 0 ≤ (x5_1 : Int) := od_
         have q513 : x5_1 < (l1.length : Int) := od_
         obtain ⟨ad513, e513, hx513_0⟩ := Kd.at_int HR1.out x5_1 p513 q513
         cases e513
         replace p513 := eq_true p513
         replace q513 := eq_true q513
         go_wp2
         repeat (go_quiet (fail); try go_wp2)
         go_roundg k1
         case measure => have := HK1.out; omega
         case rel => exact ⟨(wrap64 (x5_1 + 1)), vl_, H', ⟨by have := HK1.out; omega⟩, dr_⟩
        · rw [if_neg c7] at H
          exact absurd H (by simp)
       · rw [if_neg c6] at H
         exact absurd H (by simp)
      · rw [if_neg c5] at H
        exact absurd H (by simp)
     ·
      rw [if_neg c4] at H
      have c4b0 : decide (x5_1 < (l0.length : Int)) = false := decide_eq_false c4
      clear c4
      obtain rfl := Option.some.inj H
      go_wp2
      repeat (go_quiet (fail); try go_wp2)
      go_ret
      exact ⟨vl_, dr_⟩
 · rw [if_neg c3] at H
   exact absurd H (by simp)

/-! ### laws_eqOp: function 46 -/
def laws_eqOp.f (k : Nat) (a0_0 : Int) (a0_1 : ByteArray) (a0_2 : ByteArray) (l0_3 : List Int) (a0_4 : Int) (a0_5 : Int) (a0_6 : Int) (l0_7 : List Int) (a1_0 : Int) (a1_1 : ByteArray) (a1_2 : ByteArray) (l1_3 : List Int) (a1_4 : Int) (a1_5 : Int) (a1_6 : Int) (l1_7 : List Int) : Option (Bool) := if a0_0 = a1_0 then (if a0_1.toList = a1_1.toList then (if a0_2.toList = a1_2.toList then ((laws_eqInt64S.f k l0_3 l1_3).bind fun t516 => (if t516 = true then (if a0_4 = a1_4 then (if a0_5 = a1_5 then (if a0_6 = a1_6 then ((laws_eqByteS.f k l0_7 l1_7).bind fun t517 => (if t517 = true then (some true) else (none))) else (none)) else (none)) else (none)) else (none))) else (none)) else (none)) else (none)
set_option maxHeartbeats 8000000 in
set_option maxRecDepth 100000 in
theorem laws_eqOp.calls (k : Nat) (a0_0 : Int) (a0_1 : ByteArray) (a0_2 : ByteArray) (A0_3 : Option Addr) (c0_3 : Nat) (l0_3 : List Int) (a0_4 : Int) (a0_5 : Int) (a0_6 : Int) (A0_7 : Option Addr) (c0_7 : Nat) (l0_7 : List Int) (a1_0 : Int) (a1_1 : ByteArray) (a1_2 : ByteArray) (A1_3 : Option Addr) (c1_3 : Nat) (l1_3 : List Int) (a1_4 : Int) (a1_5 : Int) (a1_6 : Int) (A1_7 : Option Addr) (c1_7 : Nat) (l1_7 : List Int) (r : Bool) (w : World) (hr0_3 : Kd.C (Kd.int .i64) w A0_3 l0_3.length l0_3) (hc0_3 : l0_3.length ≤ c0_3) (hr0_7 : Kd.C (Kd.int .u8) w A0_7 l0_7.length l0_7) (hc0_7 : l0_7.length ≤ c0_7) (hr1_3 : Kd.C (Kd.int .i64) w A1_3 l1_3.length l1_3) (hc1_3 : l1_3.length ≤ c1_3) (hr1_7 : Kd.C (Kd.int .u8) w A1_7 l1_7.length l1_7) (hc1_7 : l1_7.length ≤ c1_7) (h : laws_eqOp.f k a0_0 a0_1 a0_2 l0_3 a0_4 a0_5 a0_6 l0_7 a1_0 a1_1 a1_2 l1_3 a1_4 a1_5 a1_6 l1_7 = some r) :
 Calls Try.prog 46 #[.agg #[.int .i64 a0_0, .string a0_1, .string a0_2, .slice A0_3 l0_3.length c0_3, .int .i64 a0_4, .int .i64 a0_5, .int .i64 a0_6, .slice A0_7 l0_7.length c0_7], .agg #[.int .i64 a1_0, .string a1_1, .string a1_2, .slice A1_3 l1_3.length c1_3, .int .i64 a1_4, .int .i64 a1_5, .int .i64 a1_6, .slice A1_7 l1_7.length c1_7]] w fun e w' => e = .returned (.bool r) ∧ Below w.heap.size w w' := by
 have hu37 := Try.underlying37
 have HR0_3 := Aside0.mk hr0_3
 have HC0_3 := Aside0.mk hc0_3
 clear hr0_3 hc0_3
 have HR0_7 := Aside0.mk hr0_7
 have HC0_7 := Aside0.mk hc0_7
 clear hr0_7 hc0_7
 have HR1_3 := Aside0.mk hr1_3
 have HC1_3 := Aside0.mk hc1_3
 clear hr1_3 hc1_3
 have HR1_7 := Aside0.mk hr1_7
 have HC1_7 := Aside0.mk hc1_7
 clear hr1_7 hc1_7
 have HB := Aside0.mk (Below.refl w.heap.size w)
 have H : (if a0_0 = a1_0 then (if a0_1.toList = a1_1.toList then (if a0_2.toList = a1_2.toList then ((laws_eqInt64S.f k l0_3 l1_3).bind fun t516 => (if t516 = true then (if a0_4 = a1_4 then (if a0_5 = a1_5 then (if a0_6 = a1_6 then ((laws_eqByteS.f k l0_7 l1_7).bind fun t517 => (if t517 = true then (some true) else (none))) else (none)) else (none)) else (none)) else (none))) else (none)) else (none)) else (none)) = some r := h
 clear h
 by_cases c3 : a0_0 = a1_0
 ·
  rw [if_pos c3] at H
  have c3b0 : (a0_0 == a1_0) = true := beq_iff_eq.mpr c3
  have c3b1 : (a0_0 != a1_0) = false := bne_eq_false_iff_eq.mpr c3
  clear c3
  by_cases c4 : a0_1.toList = a1_1.toList
  case neg => rw [if_neg c4] at H; exact absurd H (by simp)
  rw [if_pos c4] at H
  have c4b0 : (a0_1.toList == a1_1.toList) = true := beq_iff_eq.mpr c4
  have c4b1 : (a0_1.toList != a1_1.toList) = false := bne_eq_false_iff_eq.mpr c4
  clear c4
  by_cases c5 : a0_2.toList = a1_2.toList
  case neg => rw [if_neg c5] at H; exact absurd H (by simp)
  rw [if_pos c5] at H
  have c5b0 : (a0_2.toList == a1_2.toList) = true := beq_iff_eq.mpr c5
  have c5b1 : (a0_2.toList != a1_2.toList) = false := bne_eq_false_iff_eq.mpr c5
  clear c5
  replace H := Option.bind_eq_some_iff.mp H
  obtain ⟨t516, A60, H⟩ := H
  (try dsimp only at H)
  have A6 := Aside0.mk A60
  clear A60
  by_cases c7 : t516 = true
  ·
   subst c7
   (try rw [if_pos rfl] at H)
   by_cases c8 : a0_4 = a1_4
   case neg => rw [if_neg c8] at H; exact absurd H (by simp)
   rw [if_pos c8] at H
   have c8b0 : (a0_4 == a1_4) = true := beq_iff_eq.mpr c8
   have c8b1 : (a0_4 != a1_4) = false := bne_eq_false_iff_eq.mpr c8
   clear c8
   by_cases c9 : a0_5 = a1_5
   case neg => rw [if_neg c9] at H; exact absurd H (by simp)
   rw [if_pos c9] at H
   have c9b0 : (a0_5 == a1_5) = true := beq_iff_eq.mpr c9
   have c9b1 : (a0_5 != a1_5) = false := bne_eq_false_iff_eq.mpr c9
   clear c9
   by_cases c10 : a0_6 = a1_6
   case neg => rw [if_neg c10] at H; exact absurd H (by simp)
   rw [if_pos c10] at H
   have c10b0 : (a0_6 == a1_6) = true := beq_iff_eq.mpr c10
   have c10b1 : (a0_6 != a1_6) = false := bne_eq_false_iff_eq.mpr c10
   clear c10
   replace H := Option.bind_eq_some_iff.mp H
   obtain ⟨t517, A110, H⟩ := H
   replace H : (if t517 = true then (some true) else (none)) = some r := H
   have A11 := Aside0.mk A110
   clear A110
   by_cases c12 : t517 = true
   ·
    subst c12
    (try rw [if_pos rfl] at H)
    obtain rfl := Option.some.inj H
    go_enter Try.func46, Try.ntmps46
    go_wp2_with (first | ((with_reducible refine gate_dst (N := 2) rfl ?_); refine box_event ?hg (N := 2) ?hd (cs := #[.int .i64 a0_0, .string a0_1, .string a0_2, .slice A0_3 l0_3.length c0_3, .int .i64 a0_4, .int .i64 a0_5, .int .i64 a0_6, .slice A0_7 l0_7.length c0_7]) (t := 37) ?hr ?_; (case hd => rfl); (case hg => rfl); (case hr => first | (go_simp; done) | (go_simp; rfl)); intro gb514 hg w13 hbox hb; have n0_ := Aside0.mk (below_step (HB_up HB.out) hb); have n1_ := Aside0.mk (hbox); have n2_ := Aside0.mk ((by rw [hg]; exact (below_size (HB_up HB.out)) : w.heap.size ≤ gb514)); have n3_ := Aside0.mk ((by rw [hg]; exact (below_size (HB_up HB.out)) : w.heap.size ≤ gb514)); clear HB; have HB := n0_; have BK514 := n1_; have GW514 := n2_; have GE514 := n3_; clear n0_ n1_ n2_ n3_; clear hb hbox hg) | ((with_reducible refine gate_dst (N := 3) rfl ?_); refine box_event ?hg (N := 3) ?hd (cs := #[.int .i64 a1_0, .string a1_1, .string a1_2, .slice A1_3 l1_3.length c1_3, .int .i64 a1_4, .int .i64 a1_5, .int .i64 a1_6, .slice A1_7 l1_7.length c1_7]) (t := 37) ?hr ?_; (case hd => rfl); (case hg => rfl); (case hr => first | (go_simp; done) | (go_simp; rfl)); intro gb515 hg w14 hbox hb; have n0_ := Aside0.mk (blk_below (g := gb514) (blk_up BK514.out) hb); have n1_ := Aside0.mk (below_step (HB_up HB.out) hb); have n2_ := Aside0.mk (hbox); have n3_ := Aside0.mk ((by rw [hg]; exact (below_size (HB_up HB.out)) : w.heap.size ≤ gb515)); have n4_ := Aside0.mk ((by rw [hg]; exact (below_size (HB_up HB.out)) : w.heap.size ≤ gb515)); have n5_ := Aside0.mk ((by rw [hg]; exact Nat.ne_of_lt (blk_lt (g := gb514) (blk_up BK514.out)) : gb514 ≠ gb515)); have n6_ := Aside0.mk ((by rw [hg]; exact Nat.ne_of_gt (blk_lt (g := gb514) (blk_up BK514.out)) : gb515 ≠ gb514)); clear BK514; clear HB; have BK514 := n0_; have HB := n1_; have BK515 := n2_; have GW515 := n3_; have GE515 := n4_; have NB514_515 := n5_; have NB515_514 := n6_; clear n0_ n1_ n2_ n3_ n4_ n5_ n6_; clear hb hbox hg; have hnb15 := NB514_515.out; have hnc15 := NB515_514.out; obtain ⟨_, _, _, _, _, _, _, _⟩ := blk_cells8 BK514.out; obtain ⟨_, _, _, _, _, _, _, _⟩ := blk_frozen8 BK514.out; obtain ⟨_, _, _, _, _, _, _, _⟩ := blk_cells8 BK515.out; obtain ⟨_, _, _, _, _, _, _, _⟩ := blk_frozen8 BK515.out) | ((with_reducible refine gate_callee (f := 83) rfl ?_); refine goesY_ (some 24) Try.func83 #[.slice A0_3 l0_3.length c0_3, .slice A1_3 l1_3.length c1_3] rfl ?_; (with_reducible refine (laws_eqInt64S.calls k _ _ l0_3 _ _ l1_3 true _ ?_ ?_ ?_ ?_ A6.out).mono ?_); exact C_up (Kd.C_below HR0_3.out HB.out); exact HC0_3.out; exact C_up (Kd.C_below HR1_3.out HB.out); exact HC1_3.out; rintro e w' ⟨rfl, ⟨nd, rfl⟩⟩; refine ⟨_, rfl, ?_⟩) | ((with_reducible refine gate_callee (f := 21) rfl ?_); refine goesY_ (some 45) Try.func21 #[.slice A0_7 l0_7.length c0_7, .slice A1_7 l1_7.length c1_7] rfl ?_; (with_reducible refine (laws_eqByteS.calls k _ _ l0_7 _ _ l1_7 true _ ?_ ?_ ?_ ?_ A11.out).mono ?_); exact Kd.C_below HR0_7.out (HB_up HB.out); exact HC0_7.out; exact Kd.C_below HR1_7.out (HB_up HB.out); exact HC1_7.out; rintro e w' ⟨rfl, ⟨nd, rfl⟩⟩; refine ⟨_, rfl, ?_⟩))
    go_ret
    exact ⟨ve_, hs_⟩
   · replace c12 := Bool.eq_false_iff.mpr c12
     subst c12
     (try rw [if_neg (show ¬ (false = true) by decide)] at H)
     exact absurd H (by simp)
  · replace c7 := Bool.eq_false_iff.mpr c7
    subst c7
    (try rw [if_neg (show ¬ (false = true) by decide)] at H)
    exact absurd H (by simp)
 · rw [if_neg c3] at H
   exact absurd H (by simp)

/-! ### laws_eqOpS: function 13 -/
def laws_eqOpS.l0 : Nat → List (S37) → List (S37) → Int → Option (Bool)
 | 0, _, _, _ => none
 | k + 1, x0, x1, x5 => if x5 < (x0.length : Int) then (if 0 ≤ x5 then (if x5 < (x1.length : Int) then ((laws_eqOp.f k ((rd_T37 x0 x5).f0) ((rd_T37 x0 x5).f1) ((rd_T37 x0 x5).f2) ((rd_T37 x0 x5).f3) ((rd_T37 x0 x5).f4) ((rd_T37 x0 x5).f5) ((rd_T37 x0 x5).f6) ((rd_T37 x0 x5).f7) ((rd_T37 x1 x5).f0) ((rd_T37 x1 x5).f1) ((rd_T37 x1 x5).f2) ((rd_T37 x1 x5).f3) ((rd_T37 x1 x5).f4) ((rd_T37 x1 x5).f5) ((rd_T37 x1 x5).f6) ((rd_T37 x1 x5).f7)).bind fun t520 => (if t520 = true then (laws_eqOpS.l0 k x0 x1 (wrap64 (x5 + 1))) else (none))) else (none)) else (none)) else (some true)
def laws_eqOpS.f (k : Nat) (l0 : List (S37)) (l1 : List (S37)) : Option (Bool) := if (l0.length : Int) = (l1.length : Int) then (laws_eqOpS.l0 k l0 l1 0) else (none)
def laws_eqOpS.T6 : Bool × List (List Nat × List Nat) := (true, [([], []), ([], []), ([0, 1], [0, 1]), ([2], [2]), ([], []), ([], []), ([4, 5], [4, 5]), ([6], [6]), ([3, 7], [3, 7]), ([8], [8])])
def laws_eqOpS.B6 : List Nat := [0, 0, 3, 7, 0, 0, 48, 112, 255, 511]
theorem laws_eqOpS.tab6 : rtab .any (opsOf Try.f13 6) = laws_eqOpS.T6 := by kernel_rfl
theorem laws_eqOpS.bits6 : waitsOk laws_eqOpS.T6.2 laws_eqOpS.B6 = true := by kernel_rfl
set_option maxHeartbeats 8000000 in
set_option maxRecDepth 100000 in
theorem laws_eqOpS.calls (k : Nat) (A0 : Option Addr) (c0 : Nat) (l0 : List (S37)) (A1 : Option Addr) (c1 : Nat) (l1 : List (S37)) (r : Bool) (w : World) (hr0 : Kd.C k37 w A0 l0.length l0) (hc0 : l0.length ≤ c0) (hr1 : Kd.C k37 w A1 l1.length l1) (hc1 : l1.length ≤ c1) (h : laws_eqOpS.f k l0 l1 = some r) :
 Calls Try.prog 13 #[.slice A0 l0.length c0, .slice A1 l1.length c1] w fun e w' => e = .returned (.bool r) ∧ Below w.heap.size w w' := by
 have hu37 := Try.underlying37
 have HR0 := Aside0.mk hr0
 have HC0 := Aside0.mk hc0
 clear hr0 hc0
 have HR1 := Aside0.mk hr1
 have HC1 := Aside0.mk hc1
 clear hr1 hc1
 have HB := Aside0.mk (Below.refl w.heap.size w)
 have H : (if (l0.length : Int) = (l1.length : Int) then (laws_eqOpS.l0 k l0 l1 0) else (none)) = some r := h
 clear h
 by_cases c3 : (l0.length : Int) = (l1.length : Int)
 ·
  rw [if_pos c3] at H
  have c3b0 : ((l0.length : Int) == (l1.length : Int)) = true := beq_iff_eq.mpr c3
  have c3b1 : ((l0.length : Int) != (l1.length : Int)) = false := bne_eq_false_iff_eq.mpr c3
  have c3b2 : (l0.length == l1.length) = true := by first | simpa using c3 | (simp at c3 ⊢; omega)
  clear c3
  have H' := Aside0.mk H
  clear H
  go_enter Try.func13, Try.ntmps13
  go_wp2
  go_loopg [5] k (fun kq v5 w' => ∃ (x5_1 : Int), v5 = .int .i64 x5_1 ∧ Aside0 (laws_eqOpS.l0 kq l0 l1 x5_1 = some r) ∧ Aside0 (kq ≤ k) ∧ Aside0 (Below w.heap.size w w'))
  case atStart => exact ⟨(0), vl_, H', ⟨Nat.le_refl _⟩, ⟨hb_⟩⟩
  case round =>
   clear H'
   try clear c1
   try clear c3
   try clear c3b0
   try clear c3b1
   try clear c3b2
   obtain ⟨x5_1, rfl, HA, HK1, HB⟩ := hrel
   cases gk with
   | zero => exact absurd HA.out (by simp [laws_eqOpS.l0])
   | succ k1 =>
     have H := HA.out
     clear HA
     simp only [laws_eqOpS.l0] at H
     by_cases c4 : x5_1 < (l0.length : Int)
     ·
      rw [if_pos c4] at H
      have c4b0 : decide (x5_1 < (l0.length : Int)) = true := decide_eq_true c4
      clear c4
      by_cases c5 : 0 ≤ x5_1
      case neg => rw [if_neg c5] at H; exact absurd H (by simp)
      rw [if_pos c5] at H
      have c5b0 : decide (0 ≤ x5_1) = true := decide_eq_true c5
      clear c5
      by_cases c6 : x5_1 < (l1.length : Int)
      case neg => rw [if_neg c6] at H; exact absurd H (by simp)
      rw [if_pos c6] at H
      have c6b0 : decide (x5_1 < (l1.length : Int)) = true := decide_eq_true c6
      clear c6
      replace H := Option.bind_eq_some_iff.mp H
      obtain ⟨t520, A70, H⟩ := H
      (try dsimp only at H)
      have A7 := Aside0.mk A70
      clear A70
      by_cases c8 : t520 = true
      ·
       subst c8
       (try rw [if_pos rfl] at H)
       have H' := Aside0.mk H
       clear H
       try go_wp2
       replace HB := Aside0.mk (below_drew1 HB.out)
       have p518 : 0 ≤ (x5_1 : Int) := od_
       have q518 : x5_1 < (l0.length : Int) := od_
       obtain ⟨ad518, A518_3, c518_3, A518_7, c518_7, e518, hx518_0, hx518_1, hx518_2, hx518_3, hx518_4, hx518_5, hx518_6, hx518_7, hl518_3, hi518_3, hl518_7, hi518_7⟩ := at_T37 HR0.out x5_1 p518 q518
       have hw518_7 := hx518_7
       have hw518_6 := hx518_6
       have hw518_5 := hx518_5
       have hw518_4 := hx518_4
       have hw518_3 := hx518_3
       have hw518_2 := hx518_2
       have hw518_1 := hx518_1
       have hw518_0 := hx518_0
       cases e518
       replace hx518_0 := ck_ HB.out hx518_0
       replace hx518_1 := ck_ HB.out hx518_1
       replace hx518_2 := ck_ HB.out hx518_2
       replace hx518_3 := ck_ HB.out hx518_3
       replace hx518_4 := ck_ HB.out hx518_4
       replace hx518_5 := ck_ HB.out hx518_5
       replace hx518_6 := ck_ HB.out hx518_6
       replace hx518_7 := ck_ HB.out hx518_7
       have HR518_3 := Aside0.mk hi518_3
       have HC518_3 := Aside0.mk hl518_3
       clear hi518_3 hl518_3
       have HR518_7 := Aside0.mk hi518_7
       have HC518_7 := Aside0.mk hl518_7
       clear hi518_7 hl518_7
       replace p518 := eq_true p518
       replace q518 := eq_true q518
       have p519 : 0 ≤ (x5_1 : Int) := od_
       have q519 : x5_1 < (l1.length : Int) := od_
       obtain ⟨ad519, A519_3, c519_3, A519_7, c519_7, e519, hx519_0, hx519_1, hx519_2, hx519_3, hx519_4, hx519_5, hx519_6, hx519_7, hl519_3, hi519_3, hl519_7, hi519_7⟩ := at_T37 HR1.out x5_1 p519 q519
       have hw519_7 := hx519_7
       have hw519_6 := hx519_6
       have hw519_5 := hx519_5
       have hw519_4 := hx519_4
       have hw519_3 := hx519_3
       have hw519_2 := hx519_2
       have hw519_1 := hx519_1
       have hw519_0 := hx519_0
       cases e519
       replace hx519_0 := ck_ HB.out hx519_0
       replace hx519_1 := ck_ HB.out hx519_1
       replace hx519_2 := ck_ HB.out hx519_2
       replace hx519_3 := ck_ HB.out hx519_3
       replace hx519_4 := ck_ HB.out hx519_4
       replace hx519_5 := ck_ HB.out hx519_5
       replace hx519_6 := ck_ HB.out hx519_6
       replace hx519_7 := ck_ HB.out hx519_7
       have HR519_3 := Aside0.mk hi519_3
       have HC519_3 := Aside0.mk hl519_3
       clear hi519_3 hl519_3
       have HR519_7 := Aside0.mk hi519_7
       have HC519_7 := Aside0.mk hl519_7
       clear hi519_7 hl519_7
       replace p519 := eq_true p519
       replace q519 := eq_true q519
       refine start_ (n := 10) (S := fun w' => w'.cell? (ad518.add ((x5_1).toNat * 8)) = some (.int .i64 ((rd_T37 l0 x5_1).f0)) ∧ w'.cell? ⟨(ad518.add ((x5_1).toNat * 8)).block, (ad518.add ((x5_1).toNat * 8)).off + 1, none⟩ = some (.string ((rd_T37 l0 x5_1).f1)) ∧ w'.cell? ⟨(ad518.add ((x5_1).toNat * 8)).block, (ad518.add ((x5_1).toNat * 8)).off + 2, none⟩ = some (.string ((rd_T37 l0 x5_1).f2)) ∧ w'.cell? ⟨(ad518.add ((x5_1).toNat * 8)).block, (ad518.add ((x5_1).toNat * 8)).off + 3, none⟩ = some (.slice A518_3 ((rd_T37 l0 x5_1).f3).length c518_3) ∧ w'.cell? ⟨(ad518.add ((x5_1).toNat * 8)).block, (ad518.add ((x5_1).toNat * 8)).off + 4, none⟩ = some (.int .i64 ((rd_T37 l0 x5_1).f4)) ∧ w'.cell? ⟨(ad518.add ((x5_1).toNat * 8)).block, (ad518.add ((x5_1).toNat * 8)).off + 5, none⟩ = some (.int .i64 ((rd_T37 l0 x5_1).f5)) ∧ w'.cell? ⟨(ad518.add ((x5_1).toNat * 8)).block, (ad518.add ((x5_1).toNat * 8)).off + 6, none⟩ = some (.int .i64 ((rd_T37 l0 x5_1).f6)) ∧ w'.cell? ⟨(ad518.add ((x5_1).toNat * 8)).block, (ad518.add ((x5_1).toNat * 8)).off + 7, none⟩ = some (.slice A518_7 ((rd_T37 l0 x5_1).f7).length c518_7) ∧ w'.cell? (ad519.add ((x5_1).toNat * 8)) = some (.int .i64 ((rd_T37 l1 x5_1).f0)) ∧ w'.cell? ⟨(ad519.add ((x5_1).toNat * 8)).block, (ad519.add ((x5_1).toNat * 8)).off + 1, none⟩ = some (.string ((rd_T37 l1 x5_1).f1)) ∧ w'.cell? ⟨(ad519.add ((x5_1).toNat * 8)).block, (ad519.add ((x5_1).toNat * 8)).off + 2, none⟩ = some (.string ((rd_T37 l1 x5_1).f2)) ∧ w'.cell? ⟨(ad519.add ((x5_1).toNat * 8)).block, (ad519.add ((x5_1).toNat * 8)).off + 3, none⟩ = some (.slice A519_3 ((rd_T37 l1 x5_1).f3).length c519_3) ∧ w'.cell? ⟨(ad519.add ((x5_1).toNat * 8)).block, (ad519.add ((x5_1).toNat * 8)).off + 4, none⟩ = some (.int .i64 ((rd_T37 l1 x5_1).f4)) ∧ w'.cell? ⟨(ad519.add ((x5_1).toNat * 8)).block, (ad519.add ((x5_1).toNat * 8)).off + 5, none⟩ = some (.int .i64 ((rd_T37 l1 x5_1).f5)) ∧ w'.cell? ⟨(ad519.add ((x5_1).toNat * 8)).block, (ad519.add ((x5_1).toNat * 8)).off + 6, none⟩ = some (.int .i64 ((rd_T37 l1 x5_1).f6)) ∧ w'.cell? ⟨(ad519.add ((x5_1).toNat * 8)).block, (ad519.add ((x5_1).toNat * 8)).off + 7, none⟩ = some (.slice A519_7 ((rd_T37 l1 x5_1).f7).length c519_7)) (ds := []) #[false, false, false, false, false, false, false, false, false, false] (by kernel_rfl) rfl rfl ⟨(ck_ HB.out hw518_0), (ck_ HB.out hw518_1), (ck_ HB.out hw518_2), (ck_ HB.out hw518_3), (ck_ HB.out hw518_4), (ck_ HB.out hw518_5), (ck_ HB.out hw518_6), (ck_ HB.out hw518_7), (ck_ HB.out hw519_0), (ck_ HB.out hw519_1), (ck_ HB.out hw519_2), (ck_ HB.out hw519_3), (ck_ HB.out hw519_4), (ck_ HB.out hw519_5), (ck_ HB.out hw519_6), (ck_ HB.out hw519_7)⟩ (fun hHeld => ?_); refine with_tabW laws_eqOpS.tab6 laws_eqOpS.bits6 (fun HT_ HW_ => ?_)
       generalize wr.drew = w9 at HB HR518_3 HR518_7 HR519_3 HR519_7 hx518_0 hx518_1 hx518_2 hx518_3 hx518_4 hx518_5 hx518_6 hx518_7 hx519_0 hx519_1 hx519_2 hx519_3 hx519_4 hx519_5 hx519_6 hx519_7 hHeld ⊢
       refine pu_ (i := 0) (N := some 17) (v := ?_) (a' := ?_) rfl rfl (any_of HT_.out (by kernel_rfl)) (fun _ _ _ h => h) (Or.inl ⟨by rfl, ?_⟩) ?_ ?_; rotate_left
       · intro w'; go_simp; all_goals (first | with_reducible rfl | (simp [Instr.field, go_sem]; rfl))
       rotate_left
       · simp only [Act.put, List.setIfInBounds_toArray, List.set_cons_zero, List.set_cons_succ, i64_w, i32_w]; rfl
       refine pu_ (i := 1) (N := some 18) (v := ?_) (a' := ?_) rfl rfl (any_of HT_.out (by kernel_rfl)) (fun _ _ _ h => h) (Or.inl ⟨by rfl, ?_⟩) ?_ ?_; rotate_left
       · intro w'; go_simp; all_goals (first | with_reducible rfl | (simp [Instr.field, go_sem]; rfl))
       rotate_left
       · simp only [Act.put, List.setIfInBounds_toArray, List.set_cons_zero, List.set_cons_succ, i64_w, i32_w]; rfl
       refine pu_ (i := 2) (N := some 19) (v := ?_) (a' := ?_) rfl rfl (any_of HT_.out (by kernel_rfl)) (fun _ _ _ h => h) (Or.inl ⟨by rfl, ?_⟩) ?_ ?_; rotate_left
       · intro w'; go_simp; all_goals (first | with_reducible rfl | (simp [Instr.field, go_sem]; rfl))
       rotate_left
       · simp only [Act.put, List.setIfInBounds_toArray, List.set_cons_zero, List.set_cons_succ, i64_w, i32_w]; rfl
       refine pu_ (i := 4) (N := some 21) (v := ?_) (a' := ?_) rfl rfl (any_of HT_.out (by kernel_rfl)) (fun _ _ _ h => h) (Or.inl ⟨by rfl, ?_⟩) ?_ ?_; rotate_left
       · intro w'; go_simp; all_goals (first | with_reducible rfl | (simp [Instr.field, go_sem]; rfl))
       rotate_left
       · simp only [Act.put, List.setIfInBounds_toArray, List.set_cons_zero, List.set_cons_succ, i64_w, i32_w]; rfl
       refine pu_ (i := 5) (N := some 22) (v := ?_) (a' := ?_) rfl rfl (any_of HT_.out (by kernel_rfl)) (fun _ _ _ h => h) (Or.inl ⟨by rfl, ?_⟩) ?_ ?_; rotate_left
       · intro w'; go_simp; all_goals (first | with_reducible rfl | (simp [Instr.field, go_sem]; rfl))
       rotate_left
       · simp only [Act.put, List.setIfInBounds_toArray, List.set_cons_zero, List.set_cons_succ, i64_w, i32_w]; rfl
       refine pu_ (i := 6) (N := some 23) (v := ?_) (a' := ?_) rfl rfl (any_of HT_.out (by kernel_rfl)) (fun _ _ _ h => h) (Or.inl ⟨by rfl, ?_⟩) ?_ ?_; rotate_left
       · intro w'; go_simp; all_goals (first | with_reducible rfl | (simp [Instr.field, go_sem]; rfl))
       rotate_left
       · simp only [Act.put, List.setIfInBounds_toArray, List.set_cons_zero, List.set_cons_succ, i64_w, i32_w]; rfl
       refine ta_ (i := 3) (N := some 20) (v := ?_) (a' := ?_) rfl rfl (take_ofW HT_.out HW_.out (by kernel_rfl)) (fun _ _ _ h => h) (Or.inl ⟨by rfl, ?_⟩) hHeld ?_ ?_; rotate_left
       · rintro w' ⟨s0, s1, s2, s3, s4, s5, s6, s7, s8, s9, s10, s11, s12, s13, s14, s15⟩; go_simp; all_goals (first | with_reducible rfl | (simp [Instr.field, go_sem]; rfl))
       rotate_left
       · simp only [Act.put, List.setIfInBounds_toArray, List.set_cons_zero, List.set_cons_succ, i64_w, i32_w]; rfl
       refine ta_ (i := 7) (N := some 24) (v := ?_) (a' := ?_) rfl rfl (take_ofW HT_.out HW_.out (by kernel_rfl)) (fun _ _ _ h => h) (Or.inl ⟨by rfl, ?_⟩) hHeld ?_ ?_; rotate_left
       · rintro w' ⟨s0, s1, s2, s3, s4, s5, s6, s7, s8, s9, s10, s11, s12, s13, s14, s15⟩; go_simp; all_goals (first | with_reducible rfl | (simp [Instr.field, go_sem]; rfl))
       rotate_left
       · simp only [Act.put, List.setIfInBounds_toArray, List.set_cons_zero, List.set_cons_succ, i64_w, i32_w]; rfl
       refine on_ (i := 8) (N := some 25) rfl rfl (one_of HT_.out (by kernel_rfl)) (by decide) (fun K hK => ?_)
       refine goes_ Try.func46 (by kernel_rfl) rfl #[.agg #[.int .i64 ((rd_T37 l0 x5_1).f0), .string ((rd_T37 l0 x5_1).f1), .string ((rd_T37 l0 x5_1).f2), .slice A518_3 ((rd_T37 l0 x5_1).f3).length c518_3, .int .i64 ((rd_T37 l0 x5_1).f4), .int .i64 ((rd_T37 l0 x5_1).f5), .int .i64 ((rd_T37 l0 x5_1).f6), .slice A518_7 ((rd_T37 l0 x5_1).f7).length c518_7], .agg #[.int .i64 ((rd_T37 l1 x5_1).f0), .string ((rd_T37 l1 x5_1).f1), .string ((rd_T37 l1 x5_1).f2), .slice A519_3 ((rd_T37 l1 x5_1).f3).length c519_3, .int .i64 ((rd_T37 l1 x5_1).f4), .int .i64 ((rd_T37 l1 x5_1).f5), .int .i64 ((rd_T37 l1 x5_1).f6), .slice A519_7 ((rd_T37 l1 x5_1).f7).length c519_7]] (by rfl) rfl rfl (by (try simp only [List.map_toArray, List.map_cons, List.map_nil]); first | done | rfl | (simp only [List.length_drop, List.length_take]; rfl)) ?_
       with_reducible refine (laws_eqOp.calls k1 ((rd_T37 l0 x5_1).f0) ((rd_T37 l0 x5_1).f1) ((rd_T37 l0 x5_1).f2) _ _ ((rd_T37 l0 x5_1).f3) ((rd_T37 l0 x5_1).f4) ((rd_T37 l0 x5_1).f5) ((rd_T37 l0 x5_1).f6) _ _ ((rd_T37 l0 x5_1).f7) ((rd_T37 l1 x5_1).f0) ((rd_T37 l1 x5_1).f1) ((rd_T37 l1 x5_1).f2) _ _ ((rd_T37 l1 x5_1).f3) ((rd_T37 l1 x5_1).f4) ((rd_T37 l1 x5_1).f5) ((rd_T37 l1 x5_1).f6) _ _ ((rd_T37 l1 x5_1).f7) true _ ?side1 ?side2 ?side3 ?side4 ?side5 ?side6 ?side7 ?side8 A7.out).mono ?_
       (case side1 => exact C_up (Kd.C_below HR518_3.out HB.out))
       (case side2 => exact HC518_3.out)
       (case side3 => exact C_up (Kd.C_below HR518_7.out HB.out))
       (case side4 => exact HC518_7.out)
       (case side5 => exact C_up (Kd.C_below HR519_3.out HB.out))
       (case side6 => exact HC519_3.out)
       (case side7 => exact C_up (Kd.C_below HR519_7.out HB.out))
       (case side8 => exact HC519_7.out)
       rintro e w10 ⟨rfl, hb⟩
       refine ⟨_, rfl, ?_⟩
       replace HB := Aside0.mk (below_step (HB_up HB.out) hb)
       (try clear hb)
       refine hK.out _ _ ⟨(ck_ HB.out hw518_0), (ck_ HB.out hw518_1), (ck_ HB.out hw518_2), (ck_ HB.out hw518_3), (ck_ HB.out hw518_4), (ck_ HB.out hw518_5), (ck_ HB.out hw518_6), (ck_ HB.out hw518_7), (ck_ HB.out hw519_0), (ck_ HB.out hw519_1), (ck_ HB.out hw519_2), (ck_ HB.out hw519_3), (ck_ HB.out hw519_4), (ck_ HB.out hw519_5), (ck_ HB.out hw519_6), (ck_ HB.out hw519_7)⟩ (fun hHeld => ?_)
       clear hK K
       refine norm_ (a' := ?_) ?_ ?_
       rotate_left
       · show Act.put _ (some 25) _ = _
         simp only [Act.put, List.setIfInBounds_toArray, List.set_cons_zero, List.set_cons_succ, i64_w, i32_w]
         rfl
       refine pu_ (i := 9) (N := some 26) (v := ?_) (a' := ?_) rfl rfl (any_of HT_.out (by kernel_rfl)) (fun _ _ _ h => h) (Or.inl ⟨by rfl, ?_⟩) ?_ ?_; rotate_left
       · intro w'; go_simp; all_goals (first | with_reducible rfl | (simp [Instr.field, go_sem]; rfl))
       rotate_left
       · simp only [Act.put, List.setIfInBounds_toArray, List.set_cons_zero, List.set_cons_succ, i64_w, i32_w]; rfl
       refine done_ (done_of HT_.out (by kernel_rfl)) ?_
       try go_wp2
       go_roundg k1
       case measure => have := HK1.out; omega
       case rel => exact ⟨(wrap64 (x5_1 + 1)), vl_, H', ⟨by have := HK1.out; omega⟩, ⟨hb_⟩⟩
      · replace c8 := Bool.eq_false_iff.mpr c8
        subst c8
        (try rw [if_neg (show ¬ (false = true) by decide)] at H)
        exact absurd H (by simp)
     ·
      rw [if_neg c4] at H
      have c4b0 : decide (x5_1 < (l0.length : Int)) = false := decide_eq_false c4
      clear c4
      obtain rfl := Option.some.inj H
      go_wp2
      go_ret
      exact ⟨ve_, hb_⟩
 · rw [if_neg c3] at H
   exact absurd H (by simp)

/-! ### laws_eqOpsResult: function 27 -/
def laws_eqOpsResult.f (k : Nat) (a0_0 : Int) (a0_1 : Int) (l0_2 : List (S37)) (a1_0 : Int) (a1_1 : Int) (l1_2 : List (S37)) : Option (Bool) := if a0_0 = a1_0 then (if a0_1 = a1_1 then ((laws_eqOpS.f k l0_2 l1_2).bind fun t523 => (if t523 = true then (some true) else (none))) else (none)) else (none)
set_option maxHeartbeats 8000000 in
set_option maxRecDepth 100000 in
theorem laws_eqOpsResult.calls (k : Nat) (a0_0 : Int) (a0_1 : Int) (A0_2 : Option Addr) (c0_2 : Nat) (l0_2 : List (S37)) (a1_0 : Int) (a1_1 : Int) (A1_2 : Option Addr) (c1_2 : Nat) (l1_2 : List (S37)) (r : Bool) (w : World) (hr0_2 : Kd.C k37 w A0_2 l0_2.length l0_2) (hc0_2 : l0_2.length ≤ c0_2) (hr1_2 : Kd.C k37 w A1_2 l1_2.length l1_2) (hc1_2 : l1_2.length ≤ c1_2) (h : laws_eqOpsResult.f k a0_0 a0_1 l0_2 a1_0 a1_1 l1_2 = some r) :
 Calls Try.prog 27 #[.agg #[.int .i64 a0_0, .int .i64 a0_1, .slice A0_2 l0_2.length c0_2], .agg #[.int .i64 a1_0, .int .i64 a1_1, .slice A1_2 l1_2.length c1_2]] w fun e w' => e = .returned (.bool r) ∧ Below w.heap.size w w' := by
 have hu48 := Try.underlying48
 have HR0_2 := Aside0.mk hr0_2
 have HC0_2 := Aside0.mk hc0_2
 clear hr0_2 hc0_2
 have HR1_2 := Aside0.mk hr1_2
 have HC1_2 := Aside0.mk hc1_2
 clear hr1_2 hc1_2
 have HB := Aside0.mk (Below.refl w.heap.size w)
 have H : (if a0_0 = a1_0 then (if a0_1 = a1_1 then ((laws_eqOpS.f k l0_2 l1_2).bind fun t523 => (if t523 = true then (some true) else (none))) else (none)) else (none)) = some r := h
 clear h
 by_cases c3 : a0_0 = a1_0
 ·
  rw [if_pos c3] at H
  have c3b0 : (a0_0 == a1_0) = true := beq_iff_eq.mpr c3
  have c3b1 : (a0_0 != a1_0) = false := bne_eq_false_iff_eq.mpr c3
  clear c3
  by_cases c4 : a0_1 = a1_1
  case neg => rw [if_neg c4] at H; exact absurd H (by simp)
  rw [if_pos c4] at H
  have c4b0 : (a0_1 == a1_1) = true := beq_iff_eq.mpr c4
  have c4b1 : (a0_1 != a1_1) = false := bne_eq_false_iff_eq.mpr c4
  clear c4
  replace H := Option.bind_eq_some_iff.mp H
  obtain ⟨t523, A50, H⟩ := H
  replace H : (if t523 = true then (some true) else (none)) = some r := H
  have A5 := Aside0.mk A50
  clear A50
  by_cases c6 : t523 = true
  ·
   subst c6
   (try rw [if_pos rfl] at H)
   obtain rfl := Option.some.inj H
   go_enter Try.func27, Try.ntmps27
   go_wp2_with (first | ((with_reducible refine gate_dst (N := 2) rfl ?_); refine box_event ?hg (N := 2) ?hd (cs := #[.int .i64 a0_0, .int .i64 a0_1, .slice A0_2 l0_2.length c0_2]) (t := 48) ?hr ?_; (case hd => rfl); (case hg => rfl); (case hr => first | (go_simp; done) | (go_simp; rfl)); intro gb521 hg w7 hbox hb; have n0_ := Aside0.mk (below_step (HB_up HB.out) hb); have n1_ := Aside0.mk (hbox); have n2_ := Aside0.mk ((by rw [hg]; exact (below_size (HB_up HB.out)) : w.heap.size ≤ gb521)); have n3_ := Aside0.mk ((by rw [hg]; exact (below_size (HB_up HB.out)) : w.heap.size ≤ gb521)); clear HB; have HB := n0_; have BK521 := n1_; have GW521 := n2_; have GE521 := n3_; clear n0_ n1_ n2_ n3_; clear hb hbox hg) | ((with_reducible refine gate_dst (N := 3) rfl ?_); refine box_event ?hg (N := 3) ?hd (cs := #[.int .i64 a1_0, .int .i64 a1_1, .slice A1_2 l1_2.length c1_2]) (t := 48) ?hr ?_; (case hd => rfl); (case hg => rfl); (case hr => first | (go_simp; done) | (go_simp; rfl)); intro gb522 hg w8 hbox hb; have n0_ := Aside0.mk (blk_below (g := gb521) (blk_up BK521.out) hb); have n1_ := Aside0.mk (below_step (HB_up HB.out) hb); have n2_ := Aside0.mk (hbox); have n3_ := Aside0.mk ((by rw [hg]; exact (below_size (HB_up HB.out)) : w.heap.size ≤ gb522)); have n4_ := Aside0.mk ((by rw [hg]; exact (below_size (HB_up HB.out)) : w.heap.size ≤ gb522)); have n5_ := Aside0.mk ((by rw [hg]; exact Nat.ne_of_lt (blk_lt (g := gb521) (blk_up BK521.out)) : gb521 ≠ gb522)); have n6_ := Aside0.mk ((by rw [hg]; exact Nat.ne_of_gt (blk_lt (g := gb521) (blk_up BK521.out)) : gb522 ≠ gb521)); clear BK521; clear HB; have BK521 := n0_; have HB := n1_; have BK522 := n2_; have GW522 := n3_; have GE522 := n4_; have NB521_522 := n5_; have NB522_521 := n6_; clear n0_ n1_ n2_ n3_ n4_ n5_ n6_; clear hb hbox hg; have hnb9 := NB521_522.out; have hnc9 := NB522_521.out; have hcz10_0 : w8.cell? ⟨gb521, 0, none⟩ = some (.int .i64 a0_0) := (blk_cell BK521.out 0).trans rfl; have hcz10_1 : w8.cell? ⟨gb521, 1, none⟩ = some (.int .i64 a0_1) := (blk_cell BK521.out 1).trans rfl; have hcz10_2 : w8.cell? ⟨gb521, 2, none⟩ = some (.slice A0_2 l0_2.length c0_2) := (blk_cell BK521.out 2).trans rfl; have hfz10_0 := blk_frozen BK521.out 0; have hfz10_1 := blk_frozen BK521.out 1; have hfz10_2 := blk_frozen BK521.out 2; have hcz11_0 : w8.cell? ⟨gb522, 0, none⟩ = some (.int .i64 a1_0) := (blk_cell BK522.out 0).trans rfl; have hcz11_1 : w8.cell? ⟨gb522, 1, none⟩ = some (.int .i64 a1_1) := (blk_cell BK522.out 1).trans rfl; have hcz11_2 : w8.cell? ⟨gb522, 2, none⟩ = some (.slice A1_2 l1_2.length c1_2) := (blk_cell BK522.out 2).trans rfl; have hfz11_0 := blk_frozen BK522.out 0; have hfz11_1 := blk_frozen BK522.out 1; have hfz11_2 := blk_frozen BK522.out 2) | ((with_reducible refine gate_callee (f := 13) rfl ?_); refine goesY_ (some 19) Try.func13 #[.slice A0_2 l0_2.length c0_2, .slice A1_2 l1_2.length c1_2] rfl ?_; (with_reducible refine (laws_eqOpS.calls k _ _ l0_2 _ _ l1_2 true _ ?_ ?_ ?_ ?_ A5.out).mono ?_); exact C_up (Kd.C_below HR0_2.out HB.out); exact HC0_2.out; exact C_up (Kd.C_below HR1_2.out HB.out); exact HC1_2.out; rintro e w12 ⟨rfl, hb⟩; refine ⟨_, rfl, ?_⟩; replace BK521 := Aside0.mk (blk_below (g := gb521) (blk_up BK521.out) hb); replace BK522 := Aside0.mk (blk_below (g := gb522) (blk_up BK522.out) hb); replace HB := Aside0.mk (below_step (HB_up HB.out) hb); (try clear hb)))
   go_ret
   exact ⟨ve_, hs_⟩
  · replace c6 := Bool.eq_false_iff.mpr c6
    subst c6
    (try rw [if_neg (show ¬ (false = true) by decide)] at H)
    exact absurd H (by simp)
 · rw [if_neg c3] at H
   exact absurd H (by simp)

/-! ### laws_markText: function 47 -/
def laws_markText.l0 : Nat → Int → ByteArray → Option (ByteArray)
 | 0, _, _ => none
 | k + 1, x0, x3 => if x0 > 0 then ((some (([(wrap64 (48 + (Int.tmod x0 10))) % 256] : List Int) : List Int)).bind fun y524 => (if (strOfNums y524).size + x3.size ≤ 9223372036854775807 then (laws_markText.l0 k (wrap64 (Int.tdiv x0 10)) ((strOfNums y524) ++ x3)) else (none))) else (if 1 + x3.size ≤ 9223372036854775807 then (some ((⟨#[109]⟩ : ByteArray) ++ x3)) else (none))
def laws_markText.f (k : Nat) (a0 : Int) : Option (ByteArray) := if a0 ≤ 0 then (some (⟨#[109, 48]⟩ : ByteArray)) else (laws_markText.l0 k a0 (⟨#[]⟩ : ByteArray))
set_option maxHeartbeats 8000000 in
set_option maxRecDepth 100000 in
theorem laws_markText.calls (k : Nat) (a0 : Int) (r : ByteArray) (w : World) (h : laws_markText.f k a0 = some r) :
 Calls Try.prog 47 #[.int .i64 a0] w fun e w' => e = .returned (.string r) ∧ Below w.heap.size w w' := by
 have HB := Aside0.mk (Below.refl w.heap.size w)
 have H : (if a0 ≤ 0 then (some (⟨#[109, 48]⟩ : ByteArray)) else (laws_markText.l0 k a0 (⟨#[]⟩ : ByteArray))) = some r := h
 clear h
 by_cases c2 : a0 ≤ 0
 ·
  rw [if_pos c2] at H
  have c2b0 : decide (a0 ≤ 0) = true := decide_eq_true c2
  clear c2
  obtain rfl := Option.some.inj H
  go_enter Try.func47, Try.ntmps47
  go_wp2
  go_ret
  exact ⟨ve_, hb_⟩
 ·
  rw [if_neg c2] at H
  have c2b0 : decide (a0 ≤ 0) = false := decide_eq_false c2
  clear c2
  have H' := Aside0.mk H
  clear H
  go_enter Try.func47, Try.ntmps47
  go_wp2
  go_loopg [0, 3] k (fun kq v0 v3 w' => ∃ (x0_1 : Int) (x3_1 : ByteArray), v0 = .int .i64 x0_1 ∧ v3 = .string x3_1 ∧ Aside0 (laws_markText.l0 kq x0_1 x3_1 = some r) ∧ Aside0 (kq ≤ k) ∧ Aside0 (Below w.heap.size w w'))
  case atStart => exact ⟨(a0), ((⟨#[]⟩ : ByteArray)), vl_, vl_, H', ⟨Nat.le_refl _⟩, ⟨hb_⟩⟩
  case round =>
   clear H'
   try clear c2
   try clear c2b0
   obtain ⟨x0_1, x3_1, rfl, rfl, HA, HK1, HB⟩ := hrel
   cases gk with
   | zero => exact absurd HA.out (by simp [laws_markText.l0])
   | succ k1 =>
     have H := HA.out
     clear HA
     simp only [laws_markText.l0] at H
     by_cases c3 : x0_1 > 0
     ·
      rw [if_pos c3] at H
      have c3b0 : decide (0 < x0_1) = true := decide_eq_true c3
      clear c3
      obtain ⟨y524, hy524⟩ : ∃ y_ : List Int, y_ = (([(wrap64 (48 + (Int.tmod x0_1 10))) % 256] : List Int)) := ⟨_, rfl⟩
      replace H : (if (strOfNums y524).size + x3_1.size ≤ 9223372036854775807 then (laws_markText.l0 k1 (wrap64 (Int.tdiv x0_1 10)) ((strOfNums y524) ++ x3_1)) else (none)) = some r := by first | (rw [hy524]; with_reducible exact H) | (have H2_ := (Option.bind_some _ _).symm.trans H; rw [hy524]; with_reducible exact H2_) | (have H2_ := (Option.bind_some _ _).symm.trans H; with_reducible exact H2_) | with_reducible exact H | (rw [hy524]; exact H) | exact H
      have Ny524 := Aside0.mk hy524
      clear hy524
      by_cases c4 : (strOfNums y524).size + x3_1.size ≤ 9223372036854775807
      case neg => rw [if_neg c4] at H; exact absurd H (by simp)
      rw [if_pos c4] at H
      have c4b0 := eq_true c4
      have c4b1 : decide ((strOfNums y524).size + x3_1.size ≤ 9223372036854775807) = true := decide_eq_true c4
      try have c4b2 : (9223372036854775807 < (strOfNums y524).size + x3_1.size) = False := eq_false (Nat.not_lt.2 c4)
      have H' := Aside0.mk H
      clear H
      go_wp2_with (first | ((with_reducible refine gate_dst (N := 12) rfl ?_); refine Kd.R_lit (Kd.int .u8) _ 5 ?hg (N := 12) ?hd (xs := ([(wrap64 (48 + (Int.tmod x0_1 10))) % 256] : List Int)) (inner := [.int .u8 ((wrap64 (48 + (Int.tmod x0_1 10))) % 256)]) (ok := fun _ => True) (okp := fun _ => True) ?hr ?hp (fun _ hk => hk) trivial (Below.refl _ _) (Nat.le_refl _) (by simp) ?_; (case hd => rfl); (case hg => rfl); (case hr => first | (go_simp; done) | (go_simp; rfl)); (case hp => exact (Reps.one (show Kd.M (Kd.int .u8) _ _ _ ((wrap64 (48 + (Int.tmod x0_1 10))) % 256) [.int .u8 ((wrap64 (48 + (Int.tmod x0_1 10))) % 256)] from rfl) (Reps.none _ _))); intro v525 w5 ho6 hb hg_ hnew_; clear hg_ hnew_; (first | rw [← Ny524.out] at ho6 | (simp only [Int.reduceToNat] at ho6; rw [← Ny524.out] at ho6)); have HO526 := Aside0.mk (Kd.R_lower ho6 (below_size (HB_up HB.out))); replace HB := Aside0.mk (below_step (HB_up HB.out) hb); clear hb ho6; have hcv7 := own_string (P := Try.prog) Try.underlying24 Try.underlying5 Try.underlying9 (Kd.own_of_R HO526.out)))
      go_roundg k1
      case measure => have := HK1.out; omega
      case rel => exact ⟨(wrap64 (Int.tdiv x0_1 10)), ((strOfNums y524) ++ x3_1), vl_, vl_, H', ⟨by have := HK1.out; omega⟩, ⟨hb_⟩⟩
     ·
      rw [if_neg c3] at H
      have c3b0 : decide (0 < x0_1) = false := decide_eq_false c3
      clear c3
      by_cases c8 : 1 + x3_1.size ≤ 9223372036854775807
      ·
       rw [if_pos c8] at H
       have c8b0 := eq_true c8
       have c8b1 : decide (1 + x3_1.size ≤ 9223372036854775807) = true := decide_eq_true c8
       try have c8b2 : (9223372036854775807 < 1 + x3_1.size) = False := eq_false (Nat.not_lt.2 c8)
       obtain rfl := Option.some.inj H
       go_wp2
       go_ret
       exact ⟨ve_, hb_⟩
      · rw [if_neg c8] at H
        exact absurd H (by simp)

/-! ### laws_markInt64S: function 48 -/
def laws_markInt64S.l0 : Nat → List Int → Int → Int → Option (Int × List Int)
 | 0, _, _, _ => none
 | k + 1, x0, x1, x5 => if x5 < (x0.length : Int) then (if 0 ≤ x5 then (laws_markInt64S.l0 k (x0.set (x5 : Int).toNat x1) (wrap64 (x1 + 1)) (wrap64 (x5 + 1))) else (none)) else (some (x1, x0))
def laws_markInt64S.f (k : Nat) (l0 : List Int) (a1 : Int) : Option (Int × List Int) := laws_markInt64S.l0 k l0 a1 0
set_option maxHeartbeats 8000000 in
set_option maxRecDepth 100000 in
theorem laws_markInt64S.calls (k : Nat) (P0_ : Nat → Prop) (u9000_ : Value) (l0 : List Int) (a1 : Int) (r1 : Int) (r2 : List Int) (w0 w : World) (hB : Below w0.heap.size w0 w) (ho0 : Kd.R (Kd.int .i64) 2 w w0.heap.size P0_ u9000_ l0) (h : laws_markInt64S.f k l0 a1 = some (r1, r2)) :
 Calls Try.prog 48 #[u9000_, .int .i64 a1] w fun e w' => e = .returned (.int .i64 r1) ∧ Kd.R (Kd.int .i64) 2 w' w0.heap.size (fun k_ => (P0_ k_ ∨ w.heap.size ≤ k_)) u9000_ r2 ∧ Below w0.heap.size w0 w' ∧ Kept w w' (fun k_ => P0_ k_) := by
 have HO0 := Aside0.mk (show Kd.R (Kd.int .i64) 2 w w0.heap.size (fun k_ => (P0_ k_ ∨ w.heap.size ≤ k_)) u9000_ l0 from Kd.R_mono ho0 (fun k_ hk => (.inl hk)))
 have HK := Aside0.mk (Kept.refl w (fun k_ => P0_ k_))
 have HW0 := Aside0.mk hB.size
 have HB := Aside0.mk hB
 clear hB
 have H : (laws_markInt64S.l0 k l0 a1 0) = some (r1, r2) := h
 clear h
 have H' := Aside0.mk H
 clear H
 go_enter Try.func48, Try.ntmps48
 go_wp2
 go_loopg [1, 5] k (fun kq v1 v5 w' => ∃ (x0_1 : List Int) (x1_1 : Int) (x5_1 : Int), v1 = .int .i64 x1_1 ∧ v5 = .int .i64 x5_1 ∧ Aside0 (laws_markInt64S.l0 kq x0_1 x1_1 x5_1 = some (r1, r2)) ∧ Aside0 (kq ≤ k) ∧ Aside0 (Kd.R (Kd.int .i64) 2 w' w0.heap.size (fun k_ => (P0_ k_ ∨ w.heap.size ≤ k_)) u9000_ x0_1) ∧ Aside0 (Kept w w' (fun k_ => P0_ k_)) ∧ Aside0 (Below w0.heap.size w0 w'))
 case atStart => exact ⟨(l0), (a1), (0), vl_, vl_, H', ⟨Nat.le_refl _⟩, ⟨R_up HO0.out⟩, ⟨by repeat (first | (with_reducible first | exact HK.out | apply Kept.alloc | apply Kept.drewN | apply Kept.drew) | exact HK.out)⟩, ⟨hb_⟩⟩
 case round =>
  clear H'
  obtain ⟨x0_1, x1_1, x5_1, rfl, rfl, HA, HK1, HO_0, HK, HB⟩ := hrel
  cases gk with
  | zero => exact absurd HA.out (by simp [laws_markInt64S.l0])
  | succ k1 =>
    have H := HA.out
    clear HA
    simp only [laws_markInt64S.l0] at H
    by_cases c3 : x5_1 < (x0_1.length : Int)
    ·
     rw [if_pos c3] at H
     have c3b0 : decide (x5_1 < (x0_1.length : Int)) = true := decide_eq_true c3
     clear c3
     by_cases c4 : 0 ≤ x5_1
     case neg => rw [if_neg c4] at H; exact absurd H (by simp)
     rw [if_pos c4] at H
     have c4b0 : decide (0 ≤ x5_1) = true := decide_eq_true c4
     clear c4
     obtain ⟨y527, hy527⟩ : ∃ y_ : List Int, y_ = (x0_1.set (x5_1 : Int).toNat x1_1) := ⟨_, rfl⟩
     replace H : (laws_markInt64S.l0 k1 y527 (wrap64 (x1_1 + 1)) (wrap64 (x5_1 + 1))) = some (r1, r2) := by first | (rw [hy527]; with_reducible exact H) | (have H2_ := (Option.bind_some _ _).symm.trans H; rw [hy527]; with_reducible exact H2_) | (have H2_ := (Option.bind_some _ _).symm.trans H; with_reducible exact H2_) | with_reducible exact H | (rw [hy527]; exact H) | exact H
     have Ny527 := Aside0.mk hy527
     clear hy527
     have H' := Aside0.mk H
     clear H
     obtain ⟨Ao6, co6, eo6⟩ := Kd.R_slice HO_0.out
     subst eo6
     have p5 : 0 ≤ (x5_1 : Int) := od_
     have q5 : (x5_1 : Int) < ((x0_1.length : Int) : Int) := od_
     obtain ⟨go5, co5, eo5, gb5, gl5, cl5, HG5⟩ := Kd.R_form HO_0.out (by omega)
     (first | cases eo5 | (injection eo5 with ea_ en_ ec_; (first | subst ea_ | (injection ea_ with ea_; subst ea_)); subst ec_; clear en_))
     have GB5 := Aside0.mk gb5
     have GG5 := Aside0.mk HG5
     clear gb5 gl5 HG5
     have HMgo5 := Aside0.mk (show (P0_ go5 ∨ w.heap.size ≤ go5) from (HO_0.out.1 _ rfl))
     obtain ⟨hx5_0, hf5_0⟩ := Kd.R_celln 0 HO_0.out (x5_1 : Int) p5 q5
     replace p5 := eq_true p5
     replace q5 := eq_true q5
     have HP7 := Kd.R_putg HO_0.out (x5_1 : Int) x1_1
     go_wp2_with (first | ((with_reducible refine gate_store (t := 2) (p := 15) rfl ?_); refine store_event (t := 2) (p := 15) (v := ?vo_w8) (w1 := (wr.setCell ⟨go5, (x5_1 : Int).toNat, none⟩ (.int .i64 x1_1))) ?hg ?ho ?hn ?hr ?_; (case ho => rfl); (case hg => rfl); (case hn => rfl); (case hr => first | (go_simp; done) | (go_simp; rfl)); intro w8 hw; have hg : wr.grownBy w8 (some go5) := (by rw [hw]; exact HP7.2); have hp_ : Kd.R (Kd.int .i64) 2 w8 w0.heap.size (fun k_ => (P0_ k_ ∨ w.heap.size ≤ k_)) (.slice (some ⟨go5, 0, none⟩) x0_1.length co6) y527 := (by rw [hw, Ny527.out]; exact HP7.1); clear HP7; have n0_ := Aside0.mk (hp_); have n1_ := Aside0.mk ((by rw [hw]; exact below_set (HB.out) GB5.out : Below w0.heap.size w0 w8)); have n2_ := Aside0.mk (Kept.of_grown (S := (fun k_ => P0_ k_)) hg (by repeat (first | (with_reducible first | exact HK.out | apply Kept.alloc | apply Kept.drewN | apply Kept.drew) | exact HK.out)) (fun k_ e_ => (HO_0.out.1 k_ e_))); clear HO_0; clear HB; clear HK; have HO_0 := n0_; have HB := n1_; have HK := n2_; clear n0_ n1_ n2_; clear hg hw hp_))
     go_roundg k1
     case measure => have := HK1.out; omega
     case rel => exact ⟨(y527), (wrap64 (x1_1 + 1)), (wrap64 (x5_1 + 1)), vl_, vl_, H', ⟨by have := HK1.out; omega⟩, ⟨R_up HO_0.out⟩, ⟨by repeat (first | (with_reducible first | exact HK.out | apply Kept.alloc | apply Kept.drewN | apply Kept.drew) | exact HK.out)⟩, ⟨hb_⟩⟩
    ·
     rw [if_neg c3] at H
     have c3b0 : decide (x5_1 < (x0_1.length : Int)) = false := decide_eq_false c3
     clear c3
     simp only [Option.some.injEq, Prod.mk.injEq] at H
     obtain ⟨rfl, rfl⟩ := H
     obtain ⟨Ao9, co9, eo9⟩ := Kd.R_slice HO_0.out
     subst eo9
     go_wp2
     go_ret
     exact ⟨ve_, R_up HO_0.out, hb_, by repeat (first | (with_reducible first | exact HK.out | apply Kept.alloc | apply Kept.drewN | apply Kept.drew) | exact HK.out)⟩

/-! ### laws_markOpS: function 14 -/
def laws_markOpS.e (k : Nat) (o : S37) (a : Int) : Option (Int × S37) :=
 (laws_markText.f k (wrap64 (a + 1))).bind fun t1 => (laws_markText.f k (wrap64 (wrap64 (a + 1) + 1))).bind fun t2 => (laws_markInt64S.f k o.f3 (wrap64 (wrap64 (wrap64 (a + 1) + 1) + 1))).bind fun b => (laws_markByteS.f k o.f7 (wrap64 (wrap64 (wrap64 (b.1 + 1) + 1) + 1))).bind fun d => some (d.1, (⟨a, t1, t2, b.2, b.1, wrap64 (b.1 + 1), wrap64 (wrap64 (b.1 + 1) + 1), d.2⟩ : S37))
def laws_markOpS.l0 : Nat → List (S37) → Int → Int → Option (Int × (List (S37)))
 | 0, _, _, _ => none
 | k + 1, x0, x1, x5 => if x5 < (x0.length : Int) then (if 0 ≤ x5 then ((laws_markOpS.e k (rd_T37 x0 x5) x1).bind fun q => (laws_markOpS.l0 k (x0.set (x5 : Int).toNat q.2) q.1 (wrap64 (x5 + 1)))) else (none)) else (some (x1, x0))
def laws_markOpS.f (k : Nat) (l0 : List (S37)) (a1 : Int) : Option (Int × (List (S37))) := laws_markOpS.l0 k l0 a1 0
/-- One element of a row, its cells and its rows in hand. -/
def laws_markOpS.EL (W : World) (base : Nat) (P : Nat → Prop) (g n cap : Nat) (xs : List S37) (i : Int) (oki : Nat → Prop) (x : S37) (v3 v7 : Value) : Prop :=
 Kd.H k37 37 W base P (.slice (some ⟨g, 0, none⟩) n cap) xs i oki [.int .i64 x.f0, .string x.f1, .string x.f2, v3, .int .i64 x.f4, .int .i64 x.f5, .int .i64 x.f6, v7] ∧ Kd.R (Kd.int .i64) 2 W base oki v3 x.f3 ∧ Kd.R (Kd.int .u8) 5 W base oki v7 x.f7 ∧ ∀ k, oki k → P k ∧ k ≠ g
namespace laws_markOpS
variable {W W1 : World} {base g n cap : Nat} {P oki : Nat → Prop} {xs : List S37} {i : Int} {x : S37} {v3 v7 : Value}
theorem EL_of (h : Kd.S k37 37 W base P (.slice (some ⟨g, 0, none⟩) n cap) xs) (h0 : 0 ≤ i) (h1 : i < n) : ∃ oki v3 v7, EL W base P g n cap xs i oki (rd_T37 xs i) v3 v7 := by
 obtain ⟨oki, c, _, hM, _, _, hok, hH⟩ := Kd.S_elem h z37 i h0 h1
 obtain ⟨v3, v7, rfl, h3, h7⟩ := k37_openM hM
 exact ⟨oki, v3, v7, hH, h3, h7, hok⟩
theorem EL_back (h : EL W base P g n cap xs i oki x v3 v7) : Kd.S k37 37 W base P (.slice (some ⟨g, 0, none⟩) n cap) (xs.set i.toNat x) :=
 Kd.H_back h.1 (k37_mkM W base oki x h.2.1 h.2.2.1) (fun _ hk => hk)
theorem EL_below (h : EL W base P g n cap xs i oki x v3 v7) (hb : Below W.heap.size W W1) : EL W1 base P g n cap xs i oki x v3 v7 :=
 ⟨Kd.H_below h.1 hb, Kd.R_below h.2.1 hb, Kd.R_below h.2.2.1 hb, h.2.2.2⟩
theorem EL_cells (h : EL W base P g n cap xs i oki x v3 v7) (h0 : 0 ≤ i) (h1 : i < n) :
 (W.cell? ⟨g, i.toNat * 8, none⟩ = some (.int .i64 x.f0) ∧ W.cell? ⟨g, i.toNat * 8 + 1, none⟩ = some (.string x.f1) ∧ W.cell? ⟨g, i.toNat * 8 + 2, none⟩ = some (.string x.f2) ∧ W.cell? ⟨g, i.toNat * 8 + 3, none⟩ = some v3 ∧ W.cell? ⟨g, i.toNat * 8 + 4, none⟩ = some (.int .i64 x.f4) ∧ W.cell? ⟨g, i.toNat * 8 + 5, none⟩ = some (.int .i64 x.f5) ∧ W.cell? ⟨g, i.toNat * 8 + 6, none⟩ = some (.int .i64 x.f6) ∧ W.cell? ⟨g, i.toNat * 8 + 7, none⟩ = some v7) ∧
 (W.frozen? ⟨g, i.toNat * 8, none⟩ = false ∧ W.frozen? ⟨g, i.toNat * 8 + 1, none⟩ = false ∧ W.frozen? ⟨g, i.toNat * 8 + 2, none⟩ = false ∧ W.frozen? ⟨g, i.toNat * 8 + 4, none⟩ = false ∧ W.frozen? ⟨g, i.toNat * 8 + 5, none⟩ = false ∧ W.frozen? ⟨g, i.toNat * 8 + 6, none⟩ = false) := by
 obtain ⟨rows, hl, hraw, _, _, hcc, _⟩ := Kd.H_raw h.1 h0 h1
 obtain ⟨_, _, _, _, hfr⟩ := Kd.R_elem hraw [] i h0 h1
 exact ⟨⟨hcc 0 _ rfl, hcc 1 _ rfl, hcc 2 _ rfl, hcc 3 _ rfl, hcc 4 _ rfl, hcc 5 _ rfl, hcc 6 _ rfl, hcc 7 _ rfl⟩, hfr 0, hfr 1, hfr 2, hfr 4, hfr 5, hfr 6⟩
theorem EL_put (h : EL W base P g n cap xs i oki x v3 v7) (h0 : 0 ≤ i) (h1 : i < n) {u : Value} {j : Nat} (hj : j < 8) (hu : u.oneCell' = true) {x' : S37} (h3 : x'.f3 = x.f3) (h7 : x'.f7 = x.f7)
 (hc : [.int .i64 x.f0, .string x.f1, .string x.f2, v3, .int .i64 x.f4, .int .i64 x.f5, .int .i64 x.f6, v7].take j ++ [u] ++ [.int .i64 x.f0, .string x.f1, .string x.f2, v3, .int .i64 x.f4, .int .i64 x.f5, .int .i64 x.f6, v7].drop (j + 1) = [.int .i64 x'.f0, .string x'.f1, .string x'.f2, v3, .int .i64 x'.f4, .int .i64 x'.f5, .int .i64 x'.f6, v7]) :
 EL (W.setCell ⟨g, i.toNat * 8 + j, none⟩ u) base P g n cap xs i oki x' v3 v7 ∧ W.grownBy (W.setCell ⟨g, i.toNat * 8 + j, none⟩ u) (some g) := by
 have hs := Kd.H_seg h.1 h0 h1 (seg := [u]) (j := j) (show j + 1 ≤ 8 by omega) (fun q hq => by rw [List.mem_singleton.1 hq]; exact hu)
 have e : W.setCells g (i.toNat * k37.sz + j) [u] = W.setCell ⟨g, i.toNat * 8 + j, none⟩ u := rfl
 rw [e] at hs
 refine ⟨⟨?_, ?_, ?_, h.2.2.2⟩, hs.2⟩
 · have := hs.1
   rw [show j + [u].length = j + 1 from rfl, hc] at this
   exact this
 · rw [h3]; exact Kd.R_far h.2.1 (p := ⟨g, i.toNat * 8 + j, none⟩) (fun k hk => (h.2.2.2 k hk).2) u
 · rw [h7]; exact Kd.R_far h.2.2.1 (p := ⟨g, i.toNat * 8 + j, none⟩) (fun k hk => (h.2.2.2 k hk).2) u
theorem typed_ne {α β : Type} {d : Kd α} {d' : Kd β} {e e' : Nat} {b b' : Nat} {ok ok' : Nat → Prop} {v v' : Value} {ys : List α} {zs : List β} (h : d.R e W b ok v ys) (h' : d'.R e' W b' ok' v' zs) (hne : e ≠ e') (k : Nat) (hk : some k = v.ownBlock) : ¬ some k = v'.ownBlock := fun hk' => by
 obtain ⟨c1, h1⟩ := Kd.R_typed h k hk.symm
 obtain ⟨c2, h2⟩ := Kd.R_typed h' k hk'.symm
 rw [h1] at h2
 injection h2 with h2
 injection h2 with _ h2
 exact hne h2
theorem EL_ints (h : EL W base P g n cap xs i oki x v3 v7) (hk : Kept W W1 (fun k => some k = v3.ownBlock)) {u : List Int} (hr : Kd.R (Kd.int .i64) 2 W1 base (fun k => some k = v3.ownBlock ∨ W.heap.size ≤ k) v3 u) : EL W1 base P g n cap xs i oki ⟨x.f0, x.f1, x.f2, u, x.f4, x.f5, x.f6, x.f7⟩ v3 v7 :=
 ⟨Kd.H_step h.1 (fun k _ hn hlt => hk.2 k hlt (fun e => hn (h.2.1.1 k e.symm))), Kd.R_mono (Kd.R_tight rfl hr) (fun k e => h.2.1.1 k e.symm),
  Kd.R_mono (Kd.R_kept (Kd.R_tight rfl h.2.2.1) hk (fun k e => typed_ne h.2.2.1 h.2.1 (by decide) k e)) (fun k e => h.2.2.1.1 k e.symm), h.2.2.2⟩
theorem EL_bytes (h : EL W base P g n cap xs i oki x v3 v7) (hk : Kept W W1 (fun k => some k = v7.ownBlock)) {u : List Int} (hr : Kd.R (Kd.int .u8) 5 W1 base (fun k => some k = v7.ownBlock ∨ W.heap.size ≤ k) v7 u) : EL W1 base P g n cap xs i oki ⟨x.f0, x.f1, x.f2, x.f3, x.f4, x.f5, x.f6, u⟩ v3 v7 :=
 ⟨Kd.H_step h.1 (fun k _ hn hlt => hk.2 k hlt (fun e => hn (h.2.2.1.1 k e.symm))), Kd.R_mono (Kd.R_kept (Kd.R_tight rfl h.2.1) hk (fun k e => typed_ne h.2.1 h.2.2.1 (by decide) k e)) (fun k e => h.2.1.1 k e.symm),
  Kd.R_mono (Kd.R_tight rfl hr) (fun k e => h.2.2.1.1 k e.symm), h.2.2.2⟩
theorem EL_r3 (h : EL W base P g n cap xs i oki x v3 v7) : Kd.R (Kd.int .i64) 2 W base (fun k => some k = v3.ownBlock) v3 x.f3 := Kd.R_tight rfl h.2.1
theorem EL_r7 (h : EL W base P g n cap xs i oki x v3 v7) : Kd.R (Kd.int .u8) 5 W base (fun k => some k = v7.ownBlock) v7 x.f7 := Kd.R_tight rfl h.2.2.1
theorem EL_k3 (h : EL W base P g n cap xs i oki x v3 v7) {k : Nat} (hk : some k = v3.ownBlock) : P k := (h.2.2.2 k (h.2.1.1 k hk.symm)).1
theorem EL_k7 (h : EL W base P g n cap xs i oki x v3 v7) {k : Nat} (hk : some k = v7.ownBlock) : P k := (h.2.2.2 k (h.2.2.1.1 k hk.symm)).1
theorem R_offS {α : Type} {d : Kd α} {e : Nat} {W W2 : World} {b : Nat} {ok S : Nat → Prop} {v : Value} {ys : List α} (hk : Kept W W2 S) (hE : d.E = []) (h : d.R e W b ok v ys) (hS : ∀ k, S k → some k ≠ v.ownBlock) : d.R e W b (fun k => ok k ∧ ¬ S k) v ys := Kd.R_mono (Kd.R_tight2 hE h) (fun k hq => ⟨hq.2, fun hs => hS k hs hq.1⟩)
theorem EL_g (h : EL W base P g n cap xs i oki x v3 v7) : P g ∧ base ≤ g ∧ g < W.heap.size := by
 obtain ⟨_, f, hR⟩ := h.1
 exact ⟨(hR.1 g rfl).1, Kd.R_base hR g rfl, Kd.R_lt hR g rfl⟩
end laws_markOpS
set_option maxHeartbeats 8000000 in
set_option maxRecDepth 100000 in
theorem laws_markOpS.calls (k : Nat) (P0_ : Nat → Prop) (u9000_ : Value) (l0 : List (S37)) (a1 : Int) (r1 : Int) (r2 : List (S37)) (w0 w : World) (hB : Below w0.heap.size w0 w) (ho0 : Kd.S k37 37 w w0.heap.size P0_ u9000_ l0) (h : laws_markOpS.f k l0 a1 = some (r1, r2)) :
 Calls Try.prog 14 #[u9000_, .int .i64 a1] w fun e w' => e = .returned (.int .i64 r1) ∧ Kd.S k37 37 w' w0.heap.size P0_ u9000_ r2 ∧ Below w0.heap.size w0 w' ∧ Kept w w' P0_ := by
 have HK := Aside0.mk (Kept.refl w P0_)
 have HB := Aside0.mk hB
 have HS := Aside0.mk ho0
 clear hB ho0
 have H' := Aside0.mk (show laws_markOpS.l0 k l0 a1 0 = some (r1, r2) from h)
 clear h
 go_enter Try.func14, Try.ntmps14
 go_wp2
 go_loopg [1, 5] k (fun kq v1 v5 w' => ∃ (x0_1 : List (S37)) (x1_1 : Int) (x5_1 : Int), v1 = .int .i64 x1_1 ∧ v5 = .int .i64 x5_1 ∧ Aside0 (laws_markOpS.l0 kq x0_1 x1_1 x5_1 = some (r1, r2)) ∧ Aside0 (kq ≤ k) ∧ Aside0 (Kd.S k37 37 w' w0.heap.size P0_ u9000_ x0_1) ∧ Aside0 (Kept w w' P0_) ∧ Aside0 (Below w0.heap.size w0 w'))
 case atStart => exact ⟨l0, a1, 0, (by first | rfl | (simp; done)), (by first | rfl | (simp; done)), H', ⟨Nat.le_refl _⟩, HS, HK, HB⟩
 case round =>
  clear H' HS HK HB
  obtain ⟨x0_1, x1_1, x5_1, rfl, rfl, HA, HK1, HS, HK, HB⟩ := hrel
  cases gk with
  | zero => exact absurd HA.out (by simp [laws_markOpS.l0])
  | succ k1 =>
    have H := HA.out
    clear HA
    simp only [laws_markOpS.l0] at H
    by_cases c3 : x5_1 < (x0_1.length : Int)
    ·
     rw [if_pos c3] at H
     by_cases c4 : 0 ≤ x5_1
     case neg => rw [if_neg c4] at H; exact absurd H (by simp)
     rw [if_pos c4] at H
     replace H := Option.bind_eq_some_iff.mp H
     obtain ⟨⟨q1, q2⟩, E0, H⟩ := H
     unfold laws_markOpS.e at E0
     replace E0 := Option.bind_eq_some_iff.mp E0
     obtain ⟨t1, A10, E0⟩ := E0
     replace E0 := Option.bind_eq_some_iff.mp E0
     obtain ⟨t2, A20, E0⟩ := E0
     replace E0 := Option.bind_eq_some_iff.mp E0
     obtain ⟨⟨b1, b2⟩, A30, E0⟩ := E0
     replace E0 := Option.bind_eq_some_iff.mp E0
     obtain ⟨⟨d1, d2⟩, A40, E0⟩ := E0
     dsimp only at A30 A40 E0 H
     simp only [Option.some.injEq, Prod.mk.injEq] at E0
     obtain ⟨rfl, rfl⟩ := E0
     have A1 := Aside0.mk A10
     have A2 := Aside0.mk A20
     have A3 := Aside0.mk A30
     have A4 := Aside0.mk A40
     have H' := Aside0.mk H
     clear A10 A20 A30 A40 H
     obtain ⟨g, cap, eo, _, _, _⟩ := Kd.S_form HS.out (by omega)
     subst eo
     obtain ⟨oki, v3, v7, EL0⟩ := laws_markOpS.EL_of HS.out c4 c3
     obtain ⟨hgP0, hgb0, _⟩ := laws_markOpS.EL_g EL0
     have EL := Aside0.mk EL0
     have hgP := Aside0.mk hgP0
     have hgb := Aside0.mk hgb0
     have hi0 := Aside0.mk c4
     have hi1 := Aside0.mk c3
     have c3b0 : decide (x5_1 < (x0_1.length : Int)) = true := decide_eq_true c3
     have c4b0 : decide (0 ≤ x5_1) = true := decide_eq_true c4
     have p5 := eq_true c4
     have q5 := eq_true c3
     clear EL0 hgP0 hgb0 c3 c4
     obtain ⟨⟨hxr_0, _, _, _, _, _, _, _⟩, hfr_0, _, _, _, _, _⟩ := laws_markOpS.EL_cells EL.out hi0.out hi1.out
     go_wp2_with (first | ((with_reducible refine gate_store (t := 2) (p := 16) rfl ?_); refine store_event (t := 2) (p := 16) (v := ?vo_w1) (w1 := (wr.setCell ⟨g, (x5_1 : Int).toNat * 8, none⟩ (.int .i64 x1_1))) ?hg ?ho ?hn ?hr ?_; (case ho => rfl); (case hg => rfl); (case hn => rfl); (case hr => first | (go_simp; done) | (go_simp; rfl)); intro w1 hw; have hz_ := laws_markOpS.EL_put EL.out hi0.out hi1.out (u := .int .i64 x1_1) (j := 0) (by decide) rfl (x' := (⟨x1_1, (rd_T37 x0_1 x5_1).f1, (rd_T37 x0_1 x5_1).f2, (rd_T37 x0_1 x5_1).f3, (rd_T37 x0_1 x5_1).f4, (rd_T37 x0_1 x5_1).f5, (rd_T37 x0_1 x5_1).f6, (rd_T37 x0_1 x5_1).f7⟩ : S37)) rfl rfl rfl; have n0_ := Aside0.mk (show laws_markOpS.EL w1 w0.heap.size P0_ g x0_1.length cap x0_1 x5_1 oki ⟨x1_1, (rd_T37 x0_1 x5_1).f1, (rd_T37 x0_1 x5_1).f2, (rd_T37 x0_1 x5_1).f3, (rd_T37 x0_1 x5_1).f4, (rd_T37 x0_1 x5_1).f5, (rd_T37 x0_1 x5_1).f6, (rd_T37 x0_1 x5_1).f7⟩ v3 v7 from (by rw [hw]; exact hz_.1)); have hg_ : wr.grownBy w1 (some g) := (by rw [hw]; exact hz_.2); have n1_ := Aside0.mk (show Below w0.heap.size w0 w1 from (by rw [hw]; exact below_set HB.out hgb.out)); have n2_ := Aside0.mk (Kept.of_grown (S := P0_) hg_ HK.out (fun k_ e_ => .inl (by injection e_ with e_; rw [← e_]; exact hgP.out))); clear hz_ hg_ hw EL HB HK; have EL := n0_; have HB := n1_; have HK := n2_; clear n0_ n1_ n2_) | (go_at_call 47; (with_reducible refine (laws_markText.calls k1 (wrap64 (x1_1 + 1)) t1 _ A1.out).mono ?_); rintro e w2 ⟨rfl, hb⟩; have n0_ := Aside0.mk (laws_markOpS.EL_below EL.out hb); have n1_ := Aside0.mk (below_step HB.out hb); have n2_ := Aside0.mk (Kept.below HK.out hb); clear EL HB HK hb; have EL := n0_; have HB := n1_; have HK := n2_; clear n0_ n1_ n2_; obtain ⟨⟨_, hxw2_1, _, _, _, _, _, _⟩, _, hfw2_1, _, _, _, _⟩ := laws_markOpS.EL_cells EL.out hi0.out hi1.out) | ((with_reducible refine gate_store (t := 9) (p := 24) rfl ?_); refine store_event (t := 9) (p := 24) (v := ?vo_w3) (w1 := (w2.setCell ⟨g, (x5_1 : Int).toNat * 8 + 1, none⟩ (.string t1))) ?hg ?ho ?hn ?hr ?_; (case ho => rfl); (case hg => rfl); (case hn => rfl); (case hr => first | (go_simp; done) | (go_simp; rfl)); intro w3 hw; have hz_ := laws_markOpS.EL_put EL.out hi0.out hi1.out (u := .string t1) (j := 1) (by decide) rfl (x' := (⟨x1_1, t1, (rd_T37 x0_1 x5_1).f2, (rd_T37 x0_1 x5_1).f3, (rd_T37 x0_1 x5_1).f4, (rd_T37 x0_1 x5_1).f5, (rd_T37 x0_1 x5_1).f6, (rd_T37 x0_1 x5_1).f7⟩ : S37)) rfl rfl rfl; have n0_ := Aside0.mk (show laws_markOpS.EL w3 w0.heap.size P0_ g x0_1.length cap x0_1 x5_1 oki ⟨x1_1, t1, (rd_T37 x0_1 x5_1).f2, (rd_T37 x0_1 x5_1).f3, (rd_T37 x0_1 x5_1).f4, (rd_T37 x0_1 x5_1).f5, (rd_T37 x0_1 x5_1).f6, (rd_T37 x0_1 x5_1).f7⟩ v3 v7 from (by rw [hw]; exact hz_.1)); have hg_ : w2.grownBy w3 (some g) := (by rw [hw]; exact hz_.2); have n1_ := Aside0.mk (show Below w0.heap.size w0 w3 from (by rw [hw]; exact below_set HB.out hgb.out)); have n2_ := Aside0.mk (Kept.of_grown (S := P0_) hg_ HK.out (fun k_ e_ => .inl (by injection e_ with e_; rw [← e_]; exact hgP.out))); clear hz_ hg_ hw EL HB HK; have EL := n0_; have HB := n1_; have HK := n2_; clear n0_ n1_ n2_) | (go_at_call 47; (with_reducible refine (laws_markText.calls k1 (wrap64 (wrap64 (x1_1 + 1) + 1)) t2 _ A2.out).mono ?_); rintro e w4 ⟨rfl, hb⟩; have n0_ := Aside0.mk (laws_markOpS.EL_below EL.out hb); have n1_ := Aside0.mk (below_step HB.out hb); have n2_ := Aside0.mk (Kept.below HK.out hb); clear EL HB HK hb; have EL := n0_; have HB := n1_; have HK := n2_; clear n0_ n1_ n2_; obtain ⟨⟨_, _, hxw4_2, _, _, _, _, _⟩, _, _, hfw4_2, _, _, _⟩ := laws_markOpS.EL_cells EL.out hi0.out hi1.out) | ((with_reducible refine gate_store (t := 9) (p := 32) rfl ?_); refine store_event (t := 9) (p := 32) (v := ?vo_w5) (w1 := (w4.setCell ⟨g, (x5_1 : Int).toNat * 8 + 2, none⟩ (.string t2))) ?hg ?ho ?hn ?hr ?_; (case ho => rfl); (case hg => rfl); (case hn => rfl); (case hr => first | (go_simp; done) | (go_simp; rfl)); intro w5 hw; have hz_ := laws_markOpS.EL_put EL.out hi0.out hi1.out (u := .string t2) (j := 2) (by decide) rfl (x' := (⟨x1_1, t1, t2, (rd_T37 x0_1 x5_1).f3, (rd_T37 x0_1 x5_1).f4, (rd_T37 x0_1 x5_1).f5, (rd_T37 x0_1 x5_1).f6, (rd_T37 x0_1 x5_1).f7⟩ : S37)) rfl rfl rfl; have n0_ := Aside0.mk (show laws_markOpS.EL w5 w0.heap.size P0_ g x0_1.length cap x0_1 x5_1 oki ⟨x1_1, t1, t2, (rd_T37 x0_1 x5_1).f3, (rd_T37 x0_1 x5_1).f4, (rd_T37 x0_1 x5_1).f5, (rd_T37 x0_1 x5_1).f6, (rd_T37 x0_1 x5_1).f7⟩ v3 v7 from (by rw [hw]; exact hz_.1)); have hg_ : w4.grownBy w5 (some g) := (by rw [hw]; exact hz_.2); have n1_ := Aside0.mk (show Below w0.heap.size w0 w5 from (by rw [hw]; exact below_set HB.out hgb.out)); have n2_ := Aside0.mk (Kept.of_grown (S := P0_) hg_ HK.out (fun k_ e_ => .inl (by injection e_ with e_; rw [← e_]; exact hgP.out))); clear hz_ hg_ hw EL HB HK; have EL := n0_; have HB := n1_; have HK := n2_; clear n0_ n1_ n2_; obtain ⟨⟨_, _, _, hxw5_3, _, _, _, _⟩, _, _, _, _, _, _⟩ := laws_markOpS.EL_cells EL.out hi0.out hi1.out) | (go_at_call 48; have hr_ := laws_markOpS.EL_r3 EL.out; dsimp only at hr_; (with_reducible refine (laws_markInt64S.calls k1 (fun k_ => some k_ = v3.ownBlock) v3 (rd_T37 x0_1 x5_1).f3 (wrap64 (wrap64 (wrap64 (x1_1 + 1) + 1) + 1)) b1 b2 w0 _ HB.out hr_ A3.out).mono ?_); clear hr_; rintro e w6 ⟨rfl, hr, hb, hk⟩; have n0_ := Aside0.mk (laws_markOpS.EL_ints EL.out hk hr); have n1_ := Aside0.mk hb; have n2_ := Aside0.mk (Kept.then_ HK.out hk (fun k_ e_ => .inl (laws_markOpS.EL_k3 EL.out e_))); clear EL HB HK hb hk hr; have EL := n0_; have HB := n1_; have HK := n2_; clear n0_ n1_ n2_; obtain ⟨⟨_, _, _, _, hxw6_4, _, _, _⟩, _, _, _, hfw6_4, _, _⟩ := laws_markOpS.EL_cells EL.out hi0.out hi1.out) | ((with_reducible refine gate_store (t := 2) (p := 46) rfl ?_); refine store_event (t := 2) (p := 46) (v := ?vo_w7) (w1 := (w6.setCell ⟨g, (x5_1 : Int).toNat * 8 + 4, none⟩ (.int .i64 b1))) ?hg ?ho ?hn ?hr ?_; (case ho => rfl); (case hg => rfl); (case hn => rfl); (case hr => first | (go_simp; done) | (go_simp; rfl)); intro w7 hw; have hz_ := laws_markOpS.EL_put EL.out hi0.out hi1.out (u := .int .i64 b1) (j := 4) (by decide) rfl (x' := (⟨x1_1, t1, t2, b2, b1, (rd_T37 x0_1 x5_1).f5, (rd_T37 x0_1 x5_1).f6, (rd_T37 x0_1 x5_1).f7⟩ : S37)) rfl rfl rfl; have n0_ := Aside0.mk (show laws_markOpS.EL w7 w0.heap.size P0_ g x0_1.length cap x0_1 x5_1 oki ⟨x1_1, t1, t2, b2, b1, (rd_T37 x0_1 x5_1).f5, (rd_T37 x0_1 x5_1).f6, (rd_T37 x0_1 x5_1).f7⟩ v3 v7 from (by rw [hw]; exact hz_.1)); have hg_ : w6.grownBy w7 (some g) := (by rw [hw]; exact hz_.2); have n1_ := Aside0.mk (show Below w0.heap.size w0 w7 from (by rw [hw]; exact below_set HB.out hgb.out)); have n2_ := Aside0.mk (Kept.of_grown (S := P0_) hg_ HK.out (fun k_ e_ => .inl (by injection e_ with e_; rw [← e_]; exact hgP.out))); clear hz_ hg_ hw EL HB HK; have EL := n0_; have HB := n1_; have HK := n2_; clear n0_ n1_ n2_; obtain ⟨⟨_, _, _, _, _, hxw7_5, _, _⟩, _, _, _, _, hfw7_5, _⟩ := laws_markOpS.EL_cells EL.out hi0.out hi1.out) | ((with_reducible refine gate_store (t := 2) (p := 53) rfl ?_); refine store_event (t := 2) (p := 53) (v := ?vo_w8) (w1 := (w7.setCell ⟨g, (x5_1 : Int).toNat * 8 + 5, none⟩ (.int .i64 (wrap64 (b1 + 1))))) ?hg ?ho ?hn ?hr ?_; (case ho => rfl); (case hg => rfl); (case hn => rfl); (case hr => first | (go_simp; done) | (go_simp; rfl)); intro w8 hw; have hz_ := laws_markOpS.EL_put EL.out hi0.out hi1.out (u := .int .i64 (wrap64 (b1 + 1))) (j := 5) (by decide) rfl (x' := (⟨x1_1, t1, t2, b2, b1, wrap64 (b1 + 1), (rd_T37 x0_1 x5_1).f6, (rd_T37 x0_1 x5_1).f7⟩ : S37)) rfl rfl rfl; have n0_ := Aside0.mk (show laws_markOpS.EL w8 w0.heap.size P0_ g x0_1.length cap x0_1 x5_1 oki ⟨x1_1, t1, t2, b2, b1, wrap64 (b1 + 1), (rd_T37 x0_1 x5_1).f6, (rd_T37 x0_1 x5_1).f7⟩ v3 v7 from (by rw [hw]; exact hz_.1)); have hg_ : w7.grownBy w8 (some g) := (by rw [hw]; exact hz_.2); have n1_ := Aside0.mk (show Below w0.heap.size w0 w8 from (by rw [hw]; exact below_set HB.out hgb.out)); have n2_ := Aside0.mk (Kept.of_grown (S := P0_) hg_ HK.out (fun k_ e_ => .inl (by injection e_ with e_; rw [← e_]; exact hgP.out))); clear hz_ hg_ hw EL HB HK; have EL := n0_; have HB := n1_; have HK := n2_; clear n0_ n1_ n2_; obtain ⟨⟨_, _, _, _, _, _, hxw8_6, _⟩, _, _, _, _, _, hfw8_6⟩ := laws_markOpS.EL_cells EL.out hi0.out hi1.out) | ((with_reducible refine gate_store (t := 2) (p := 60) rfl ?_); refine store_event (t := 2) (p := 60) (v := ?vo_w9) (w1 := (w8.setCell ⟨g, (x5_1 : Int).toNat * 8 + 6, none⟩ (.int .i64 (wrap64 (wrap64 (b1 + 1) + 1))))) ?hg ?ho ?hn ?hr ?_; (case ho => rfl); (case hg => rfl); (case hn => rfl); (case hr => first | (go_simp; done) | (go_simp; rfl)); intro w9 hw; have hz_ := laws_markOpS.EL_put EL.out hi0.out hi1.out (u := .int .i64 (wrap64 (wrap64 (b1 + 1) + 1))) (j := 6) (by decide) rfl (x' := (⟨x1_1, t1, t2, b2, b1, wrap64 (b1 + 1), wrap64 (wrap64 (b1 + 1) + 1), (rd_T37 x0_1 x5_1).f7⟩ : S37)) rfl rfl rfl; have n0_ := Aside0.mk (show laws_markOpS.EL w9 w0.heap.size P0_ g x0_1.length cap x0_1 x5_1 oki ⟨x1_1, t1, t2, b2, b1, wrap64 (b1 + 1), wrap64 (wrap64 (b1 + 1) + 1), (rd_T37 x0_1 x5_1).f7⟩ v3 v7 from (by rw [hw]; exact hz_.1)); have hg_ : w8.grownBy w9 (some g) := (by rw [hw]; exact hz_.2); have n1_ := Aside0.mk (show Below w0.heap.size w0 w9 from (by rw [hw]; exact below_set HB.out hgb.out)); have n2_ := Aside0.mk (Kept.of_grown (S := P0_) hg_ HK.out (fun k_ e_ => .inl (by injection e_ with e_; rw [← e_]; exact hgP.out))); clear hz_ hg_ hw EL HB HK; have EL := n0_; have HB := n1_; have HK := n2_; clear n0_ n1_ n2_; obtain ⟨⟨_, _, _, _, _, _, _, hxw9_7⟩, _, _, _, _, _, _⟩ := laws_markOpS.EL_cells EL.out hi0.out hi1.out) | (go_at_call 22; have hr_ := laws_markOpS.EL_r7 EL.out; dsimp only at hr_; (with_reducible refine (laws_markByteS.calls k1 (fun k_ => some k_ = v7.ownBlock) v7 (rd_T37 x0_1 x5_1).f7 (wrap64 (wrap64 (wrap64 (b1 + 1) + 1) + 1)) d1 d2 w0 _ HB.out hr_ A4.out).mono ?_); clear hr_; rintro e w10 ⟨rfl, hr, hb, hk⟩; have n0_ := Aside0.mk (laws_markOpS.EL_bytes EL.out hk hr); have n1_ := Aside0.mk hb; have n2_ := Aside0.mk (Kept.then_ HK.out hk (fun k_ e_ => .inl (laws_markOpS.EL_k7 EL.out e_))); clear EL HB HK hb hk hr; have EL := n0_; have HB := n1_; have HK := n2_; clear n0_ n1_ n2_))
     go_roundg k1
     case measure => have := HK1.out; omega
     case rel => exact ⟨_, _, _, (by first | rfl | (simp; done)), (by first | rfl | (simp; done)), H', ⟨by have := HK1.out; omega⟩, ⟨laws_markOpS.EL_back EL.out⟩, HK, HB⟩
    ·
     rw [if_neg c3] at H
     have c3b0 : decide (x5_1 < (x0_1.length : Int)) = false := decide_eq_false c3
     clear c3
     simp only [Option.some.injEq, Prod.mk.injEq] at H
     obtain ⟨rfl, rfl⟩ := H
     obtain ⟨Ao9, co9, eo9⟩ := Kd.S_slice HS.out
     subst eo9
     go_wp2
     go_ret
     exact ⟨rfl, HS.out, HB.out, HK.out⟩

/-! ### laws_markOpsResult: function 28 -/
def laws_markOpsResult.f (k : Nat) (a0_0 : Int) (a0_1 : Int) (l0_2 : List (S37)) (a1 : Int) : Option (Int × (List (S37))) := laws_markOpS.f k l0_2 a1
set_option maxHeartbeats 8000000 in
set_option maxRecDepth 100000 in
theorem laws_markOpsResult.calls (k : Nat) (a0_0 : Int) (a0_1 : Int) (P0_2_ : Nat → Prop) (u9000_ : Value) (l0_2 : List (S37)) (a1 : Int) (r1 : Int) (r2 : List (S37)) (w0 w : World) (hB : Below w0.heap.size w0 w) (ho0_2 : Kd.S k37 37 w w0.heap.size P0_2_ u9000_ l0_2) (h : laws_markOpsResult.f k a0_0 a0_1 l0_2 a1 = some (r1, r2)) :
 Calls Try.prog 28 #[.agg #[.int .i64 a0_0, .int .i64 a0_1, u9000_], .int .i64 a1] w fun e w' => e = .returned (.int .i64 r1) ∧ Kd.S k37 37 w' w0.heap.size P0_2_ u9000_ r2 ∧ Below w0.heap.size w0 w' ∧ Kept w w' P0_2_ := by
 obtain ⟨Ao, co, eo⟩ := Kd.S_slice ho0_2
 subst eo
 have HB := Aside0.mk hB
 have HS := Aside0.mk ho0_2
 have HA := Aside0.mk (show laws_markOpS.f k l0_2 a1 = some (r1, r2) from h)
 clear hB ho0_2 h
 go_enter Try.func28, Try.ntmps28
 go_wp2_with (first | ((with_reducible refine gate_dst (N := 2) rfl ?_); refine box_event ?hg (N := 2) ?hd (cs := #[.int .i64 a0_0, .int .i64 a0_1, .slice Ao l0_2.length co]) (t := 48) ?hr ?_; (case hd => rfl); (case hg => rfl); (case hr => first | (go_simp; done) | (go_simp; rfl)); intro gb hg w5 hbox hb; have HS1 := Aside0.mk (Kd.S_below HS.out hb); have HB1 := Aside0.mk (below_step HB.out hb); have HK1 := Aside0.mk (Kept.below (S := P0_2_) (Kept.refl w P0_2_) hb); have hc0 : w5.cell? ⟨gb, 0, none⟩ = some (.int .i64 a0_0) := (blk_cell hbox 0).trans rfl; have hc1 : w5.cell? ⟨gb, 1, none⟩ = some (.int .i64 a0_1) := (blk_cell hbox 1).trans rfl; have hc2 : w5.cell? ⟨gb, 2, none⟩ = some (.slice Ao l0_2.length co) := (blk_cell hbox 2).trans rfl; clear hbox hb hg HS HB) | ((with_reducible refine gate_callee (f := 14) rfl ?_); refine goesL_ (some 8) rfl rfl Try.func14 (by kernel_rfl) rfl #[.slice Ao l0_2.length co, .int .i64 a1] rfl (by (try simp only [List.map_toArray, List.map_cons, List.map_nil]); first | done | rfl) ?_; refine (laws_markOpS.calls k P0_2_ _ l0_2 a1 r1 r2 w0 _ HB1.out HS1.out HA.out).mono ?_; rintro e w6 ⟨rfl, hs, hb2, hk⟩; refine ⟨_, rfl, ?_⟩; have HS2 := Aside0.mk hs; have HB2 := Aside0.mk hb2; have HK2 := Aside0.mk (Kept.then_ (S := P0_2_) HK1.out hk (fun _ hs_ => .inl hs_)); clear hs hb2 hk hc0 hc1 hc2))
 go_ret
 exact ⟨by first | rfl | (simp; done), by (with_reducible repeat (first | apply Kd.S_alloc | apply Kd.S_drewN | apply Kd.S_drew)); exact HS2.out, by repeat (first | exact HB2.out | apply pw_below_drewN | apply below_drew1), by repeat (first | exact HK2.out | apply Kept.drewN | apply Kept.drew)⟩

end Go.Proofs.Ytehdbobpbcjmeaa.PFnExactReadJournal

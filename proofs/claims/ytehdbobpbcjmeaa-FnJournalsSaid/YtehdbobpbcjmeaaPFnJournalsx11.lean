/- Functions of the program, each with what its call comes to. Conditions: each theorem's. -/
import Derived.Test.YtehdbobpbcjmeaaVFnJournalsZ
import Derived.Test.YtehdbobpbcjmeaaPFnJournalsx0
import Derived.Test.YtehdbobpbcjmeaaPFnJournalsx10
namespace Go.Proofs.Ytehdbobpbcjmeaa.PFnJournals
open Go.RowKit Go.Proofs.YtehdbobpbcjmeaaW.PrintWords Go.Proofs.YtehdbobpbcjmeaaW.PrintLast Go.Proofs.YtehdbobpbcjmeaaW.PrintMore
attribute [local go_sem] max2_int min2_int max_two min_two max_three min_three max_four min_four   -- for this text's walks alone
set_option linter.unusedVariables false
set_option linter.unusedSimpArgs false
set_option maxHeartbeats 8000000
set_option maxRecDepth 100000

/-! ### impl_readOps: function 55 -/
def impl_readOps.l0 : Nat → List Int → List (S37) → Int → Option ((List (S37)) × Int)
 | 0, _, _, _ => none
 | k + 1, x0, x4, x5 => if 0 ≤ x5 then (if x5 ≤ (x0.length : Int) then ((impl_readOp.f k (x0.drop (x5 : Int).toNat)).bind fun bt515 => (if bt515.2.2.2.2.2.2.2.2 = 0 then (some (x4, x5)) else (if x4.length < 1256584717458 then (impl_readOps.l0 k x0 (x4 ++ [(⟨bt515.1, bt515.2.1, bt515.2.2.1, bt515.2.2.2.1, bt515.2.2.2.2.1, bt515.2.2.2.2.2.1, bt515.2.2.2.2.2.2.1, bt515.2.2.2.2.2.2.2.1⟩ : S37)]) (wrap64 (x5 + bt515.2.2.2.2.2.2.2.2))) else (none)))) else (none)) else (none)
def impl_readOps.f (k : Nat) (l0 : List Int) : Option ((List (S37)) × Int) := impl_readOps.l0 k l0 (([] : List (S37))) 0
theorem impl_readOps.calls (k : Nat) (A0 : Option Addr) (c0 : Nat) (l0 : List Int) (r1 : List (S37)) (r2 : Int) (w : World) (hr0 : Kd.C (Kd.int .u8) w A0 l0.length l0) (hc0 : l0.length ≤ c0) (h : impl_readOps.f k l0 = some (r1, r2)) :
 Calls Try.prog 55 #[.slice A0 l0.length c0] w fun e w' => ∃ v0_ : Value, e = .returned (.tuple #[v0_, .int .i64 r2]) ∧ Kd.S k37 37 w' w.heap.size (fun _ => True) v0_ r1 ∧ Below w.heap.size w w' := by
 have hu37 := Try.underlying37; have HR0 := Aside0.mk hr0; have HC0 := Aside0.mk hc0; clear hr0 hc0; have HB := Aside0.mk (Below.refl w.heap.size w); have H := h; unfold impl_readOps.f at H; clear h; generalize hy511 : (([] : List (S37))) = y511 at H; have Ny511 := Aside0.mk hy511.symm; clear hy511; have H' := Aside0.mk H; clear H
 go_enter Try.func55, Try.ntmps55
 go_wp2_with (first | ((with_reducible refine gate_dst (N := 8) rfl ?_); refine Kd.S_lit k37 _ 37 ?hg (N := 8) ?hd (xs := ([] : List (S37))) (inner := []) (ok := fun _ => True) (okp := fun _ => True) ?hr ?hp (fun _ hk => hk) trivial (Below.refl _ _) (Nat.le_refl _) (by simp) ?_; (case hd => rfl); (case hg => rfl); (case hr => first | (go_simp; done) | (go_simp; rfl)); (case hp => exact (Reps.none _ _)); intro v512 w2 ho3 hb hg_ hnew_; clear hg_ hnew_; (first | rw [← Ny511.out] at ho3 | (simp only [Int.reduceToNat] at ho3; rw [← Ny511.out] at ho3)); have HO513 := Aside0.mk (Kd.S_lower ho3 (below_size (hb_))); replace HB := bt_ HB hb hb_; clear hb ho3))
 go_loopg [4, 5] k (fun kq v4 v5 w' => ∃ (x4_1 : List (S37)) (x5_1 : Int), v5 = .int .i64 x5_1 ∧ Aside0 (impl_readOps.l0 kq l0 x4_1 x5_1 = some (r1, r2)) ∧ Aside0 (kq ≤ k) ∧ Aside0 (Kd.S k37 37 w' w.heap.size (fun _ => True) v4 x4_1) ∧ Aside0 (Below w.heap.size w w'))
 case atStart => exact ⟨(y511), (0), vl_, H', ⟨Nat.le_refl _⟩, ⟨S_up HO513.out⟩, ⟨hb_⟩⟩
 case round =>
  clear H'; obtain ⟨x4_1, x5_1, rfl, HA, HK1, HO_4, HB⟩ := hrel
  cases gk with
  | zero => exact absurd HA.out (by simp [impl_readOps.l0])
  | succ k1 =>
    have H := HA.out; clear HA; simp only [impl_readOps.l0] at H
    by_cases c4 : 0 ≤ x5_1
    ·
     rw [if_pos c4] at H; have c4b0 := eq_true c4; have c4b1 : decide (0 ≤ x5_1) = true := decide_eq_true c4; clear c4; obtain ⟨c5, H⟩ := ifc_ H; have c5b0 := eq_true c5; have c5b1 : decide (x5_1 ≤ (l0.length : Int)) = true := decide_eq_true c5; clear c5; obtain ⟨⟨t515, t516, t517, t518, t521, t522, t523, t524, t527⟩, A6, H⟩ := bd_ H; (try dsimp only at H)
     by_cases c7 : t527 = 0
     ·
      rw [if_pos c7] at H; have c7b0 : (t527 == 0) = true := beq_iff_eq.mpr c7; have c7b1 : (t527 != 0) = false := bne_eq_false_iff_eq.mpr c7; clear c7; simp only [Option.some.injEq, Prod.mk.injEq] at H; obtain ⟨rfl, rfl⟩ := H; obtain ⟨i08, hi08, _, hsz8, _⟩ := info_parts info5; obtain ⟨A8, hcut8, hA8, hC8⟩ := print_drop_of (P := Try.prog) (Value.int .u8) 0 24 5 .i64 Try.underlying24 hi08 hsz8 A0 c0 l0 x5_1 (od_) (od_) HC0.out; have HR514 := Aside0.mk (Kd.C_of_reads (h1 := fun _ => rfl) (hA8 _ (Kd.reads_of_C HR0.out))); have HC514 := Aside0.mk hC8; clear hA8 hC8 hi08 hsz8
      go_wp2_with (first | ((with_reducible refine gate_callee (f := 51) rfl ?_); refine goesL_ (some 13) rfl rfl Try.func51 (by kernel_rfl) rfl #[.slice A8 (l0.drop (x5_1 : Int).toNat).length (c0 - x5_1.toNat)] rfl (by (try simp only [List.map_toArray, List.map_cons, List.map_nil]); first | done | (rw [show (l0.drop (x5_1 : Int).toNat).length = (l0.length - x5_1.toNat) from List.length_drop] <;> rfl) | rfl | (simp only [List.length_drop, List.length_take]; rfl)) ?_; (with_reducible refine (impl_readOp.calls k1 _ _ (l0.drop (x5_1 : Int).toNat) t515 t516 t517 t518 t521 t522 t523 t524 t527 _ ?_ ?_ A6.out).mono ?_); exact cu_ HR514 HB; exact HC514.out; rintro e w9 ⟨v519, v525, rfl, ho0, ho1, hb⟩; refine ⟨_, rfl, ?_⟩; replace HO_4 := Aside0.mk (Kd.S_mono (Kd.S_told (Kd.S_told (Kd.S_old (S_up HO_4.out) hb) (Kd.R_base ho0)) (Kd.R_base ho1)) (fun _ h_ => h_.1)); have HO520 := Aside0.mk (Kd.R_lower ho0 (below_size (hb_))); have HO526 := Aside0.mk (Kd.R_lower ho1 (below_size (hb_))); replace HB := bt_ HB hb hb_; (try clear hb); (try clear ho0); (try clear ho1)) | ((with_reducible refine gate_dst (N := 6) rfl ?_); refine box_event ?hg (N := 6) ?hd (cs := #[.int .i64 0, .string (⟨#[]⟩ : ByteArray), .string (⟨#[]⟩ : ByteArray), .slice none 0 0, .int .i64 0, .int .i64 0, .int .i64 0, .slice none 0 0]) (t := 37) ?hr ?_; (case hd => rfl); (case hg => rfl); (case hr => first | (go_simp; done) | (go_simp; rfl)); intro gb528 hg w10 hbox hb; replace HO_4 := Aside0.mk (Kd.S_below (Kd.S_elderB (S_up HO_4.out) gb528 (Nat.le_of_eq hg.symm)) hb); replace HO520 := rb_ HO520 hb; replace HO526 := rb_ HO526 hb; have BK528 := Aside0.mk hbox; have GW528 := ge_ HB hg hb_; have GE528 := ge_ HB hg hb_; replace HB := bt_ HB hb hb_; clear hb hbox hg; obtain ⟨_, _, _, _, _, _, _, _⟩ := blk_cells8 BK528.out; obtain ⟨_, _, _, _, _, _, _, _⟩ := blk_frozen8 BK528.out; obtain ⟨Ao12, co12, eo12⟩ := Kd.R_slice HO520.out; subst eo12; obtain ⟨Ao13, co13, eo13⟩ := Kd.R_slice HO526.out; subst eo13))
      go_ret2
      exact ⟨_, ve_, by (with_reducible repeat (first | apply Kd.S_alloc | apply Kd.S_drewN | apply Kd.S_drew)); exact Kd.S_mono (Kd.S_far (p := ⟨gb528, 7, none⟩) (Kd.S_far (p := ⟨gb528, 6, none⟩) (Kd.S_far (p := ⟨gb528, 5, none⟩) (Kd.S_far (p := ⟨gb528, 4, none⟩) (Kd.S_far (p := ⟨gb528, 3, none⟩) (Kd.S_far (p := ⟨gb528, 2, none⟩) (Kd.S_far (p := ⟨gb528, 1, none⟩) (Kd.S_far (p := ⟨gb528, 0, none⟩) (Kd.S_mono HO_4.out (fun k_ hk => (⟨hk, hk.2⟩ : _ ∧ k_ ≠ gb528))) (fun _ hk => hk.2) (.int .i64 t515)) (fun _ hk => hk.2) (.string t516)) (fun _ hk => hk.2) (.string t517)) (fun _ hk => hk.2) (.slice Ao12 t518.length co12)) (fun _ hk => hk.2) (.int .i64 t521)) (fun _ hk => hk.2) (.int .i64 t522)) (fun _ hk => hk.2) (.int .i64 t523)) (fun _ hk => hk.2) (.slice Ao13 t524.length co13)) (fun _ hk => trivial), hs_⟩
     ·
      rw [if_neg c7] at H; have c7b0 : (t527 == 0) = false := beq_eq_false_iff_ne.mpr c7; have c7b1 : (t527 != 0) = true := bne_iff_ne.mpr c7; obtain ⟨LMc14, H⟩ := ifn_ H; generalize hy529 : (x4_1 ++ [(⟨t515, t516, t517, t518, t521, t522, t523, t524⟩ : S37)]) = y529 at H; have Ny529 := Aside0.mk hy529.symm; clear hy529; have H' := Aside0.mk H; clear H; obtain ⟨i015, hi015, _, hsz15, _⟩ := info_parts info5; obtain ⟨A15, hcut15, hA15, hC15⟩ := print_drop_of (P := Try.prog) (Value.int .u8) 0 24 5 .i64 Try.underlying24 hi015 hsz15 A0 c0 l0 x5_1 (od_) (od_) HC0.out; have HR514 := Aside0.mk (Kd.C_of_reads (h1 := fun _ => rfl) (hA15 _ (Kd.reads_of_C HR0.out))); have HC514 := Aside0.mk hC15; clear hA15 hC15 hi015 hsz15
      go_wp2_with (first | ((with_reducible refine gate_callee (f := 51) rfl ?_); refine goesL_ (some 13) rfl rfl Try.func51 (by kernel_rfl) rfl #[.slice A15 (l0.drop (x5_1 : Int).toNat).length (c0 - x5_1.toNat)] rfl (by (try simp only [List.map_toArray, List.map_cons, List.map_nil]); first | done | (rw [show (l0.drop (x5_1 : Int).toNat).length = (l0.length - x5_1.toNat) from List.length_drop] <;> rfl) | rfl | (simp only [List.length_drop, List.length_take]; rfl)) ?_; (with_reducible refine (impl_readOp.calls k1 _ _ (l0.drop (x5_1 : Int).toNat) t515 t516 t517 t518 t521 t522 t523 t524 t527 _ ?_ ?_ A6.out).mono ?_); exact cu_ HR514 HB; exact HC514.out; rintro e w16 ⟨v519, v525, rfl, ho0, ho1, hb⟩; refine ⟨_, rfl, ?_⟩; replace HO_4 := Aside0.mk (Kd.S_mono (Kd.S_told (Kd.S_told (Kd.S_old (S_up HO_4.out) hb) (Kd.R_base ho0)) (Kd.R_base ho1)) (fun _ h_ => h_.1)); have HO520 := Aside0.mk (Kd.R_lower ho0 (below_size (hb_))); have HO526 := Aside0.mk (Kd.R_lower ho1 (below_size (hb_))); replace HB := bt_ HB hb hb_; (try clear hb); (try clear ho0); (try clear ho1)) | ((with_reducible refine gate_dst (N := 6) rfl ?_); refine box_event ?hg (N := 6) ?hd (cs := #[.int .i64 0, .string (⟨#[]⟩ : ByteArray), .string (⟨#[]⟩ : ByteArray), .slice none 0 0, .int .i64 0, .int .i64 0, .int .i64 0, .slice none 0 0]) (t := 37) ?hr ?_; (case hd => rfl); (case hg => rfl); (case hr => first | (go_simp; done) | (go_simp; rfl)); intro gb528 hg w17 hbox hb; replace HO_4 := Aside0.mk (Kd.S_below (Kd.S_elderB (S_up HO_4.out) gb528 (Nat.le_of_eq hg.symm)) hb); replace HO520 := rb_ HO520 hb; replace HO526 := rb_ HO526 hb; have BK528 := Aside0.mk hbox; have GW528 := ge_ HB hg hb_; have GE528 := ge_ HB hg hb_; replace HB := bt_ HB hb hb_; clear hb hbox hg; obtain ⟨_, _, _, _, _, _, _, _⟩ := blk_cells8 BK528.out; obtain ⟨_, _, _, _, _, _, _, _⟩ := blk_frozen8 BK528.out; obtain ⟨Ao19, co19, eo19⟩ := Kd.R_slice HO520.out; subst eo19; obtain ⟨Ao20, co20, eo20⟩ := Kd.R_slice HO526.out; subst eo20) | ((with_reducible refine gate_store (t := 37) (p := 6) rfl ?_); refine store_event (t := 37) (p := 6) (v := ?vo_w21) (w1 := ((((((((w17.setCell ⟨gb528, 0, none⟩ (.int .i64 t515)).setCell ⟨gb528, 1, none⟩ (.string t516)).setCell ⟨gb528, 2, none⟩ (.string t517)).setCell ⟨gb528, 3, none⟩ (.slice Ao19 t518.length co19)).setCell ⟨gb528, 4, none⟩ (.int .i64 t521)).setCell ⟨gb528, 5, none⟩ (.int .i64 t522)).setCell ⟨gb528, 6, none⟩ (.int .i64 t523)).setCell ⟨gb528, 7, none⟩ (.slice Ao20 t524.length co20))) ?hg ?ho ?hn ?hr ?_; (case ho => rfl); (case hg => rfl); (case hn => rfl); (case hr => first | (go_simp; done) | (go_simp; rfl)); intro w21 hw; have n0_ : Aside0 (Kd.S k37 37 w21 w.heap.size (fun k_ => some k_ ≠ (.slice Ao19 t518.length co19 : Value).ownBlock ∧ some k_ ≠ (.slice Ao20 t524.length co20 : Value).ownBlock ∧ k_ ≠ gb528) u4 x4_1) := ⟨(by rw [hw]; exact (by (with_reducible repeat (first | apply Kd.S_alloc | apply Kd.S_drewN | apply Kd.S_drew)); exact Kd.S_mono (Kd.S_far (p := ⟨gb528, 7, none⟩) (Kd.S_far (p := ⟨gb528, 6, none⟩) (Kd.S_far (p := ⟨gb528, 5, none⟩) (Kd.S_far (p := ⟨gb528, 4, none⟩) (Kd.S_far (p := ⟨gb528, 3, none⟩) (Kd.S_far (p := ⟨gb528, 2, none⟩) (Kd.S_far (p := ⟨gb528, 1, none⟩) (Kd.S_far (p := ⟨gb528, 0, none⟩) (Kd.S_mono HO_4.out (fun k_ hk => (⟨hk, hk.2⟩ : _ ∧ k_ ≠ gb528))) (fun _ hk => hk.2) (.int .i64 t515)) (fun _ hk => hk.2) (.string t516)) (fun _ hk => hk.2) (.string t517)) (fun _ hk => hk.2) (.slice Ao19 t518.length co19)) (fun _ hk => hk.2) (.int .i64 t521)) (fun _ hk => hk.2) (.int .i64 t522)) (fun _ hk => hk.2) (.int .i64 t523)) (fun _ hk => hk.2) (.slice Ao20 t524.length co20)) (fun _ hk => ⟨hk.1.1.1.2, ⟨hk.1.1.2, hk.1.2⟩⟩)))⟩; have n1_ : Aside0 (Kd.R (Kd.int .i64) 2 w21 w.heap.size (fun _ => True) (.slice Ao19 t518.length co19) t518) := ⟨(by rw [hw]; exact (rft_ HO520 BK528))⟩; have n2_ : Aside0 (Kd.R (Kd.int .u8) 5 w21 w.heap.size (fun _ => True) (.slice Ao20 t524.length co20) t524) := ⟨(by rw [hw]; exact (rft_ HO526 BK528))⟩; have n3_ : Aside0 (w21.heap[gb528]? = some (.cells #[.int .i64 t515, .string t516, .string t517, .slice Ao19 t518.length co19, .int .i64 t521, .int .i64 t522, .int .i64 t523, .slice Ao20 t524.length co20] 37 (0, 0))) := ⟨(by rw [hw]; exact (by (with_reducible repeat (first | refine blk_drewN ?_ _ | refine blk_drew ?_ | refine blk_alloc ?_ _)); refine blk_put (cs := #[.int .i64 t515, .string t516, .string t517, .slice Ao19 t518.length co19, .int .i64 t521, .int .i64 t522, .int .i64 t523, .slice none 0 0]) ?_ 7 _ rfl; (with_reducible repeat (first | refine blk_drewN ?_ _ | refine blk_drew ?_ | refine blk_alloc ?_ _)); refine blk_put (cs := #[.int .i64 t515, .string t516, .string t517, .slice Ao19 t518.length co19, .int .i64 t521, .int .i64 t522, .int .i64 0, .slice none 0 0]) ?_ 6 _ rfl; (with_reducible repeat (first | refine blk_drewN ?_ _ | refine blk_drew ?_ | refine blk_alloc ?_ _)); refine blk_put (cs := #[.int .i64 t515, .string t516, .string t517, .slice Ao19 t518.length co19, .int .i64 t521, .int .i64 0, .int .i64 0, .slice none 0 0]) ?_ 5 _ rfl; (with_reducible repeat (first | refine blk_drewN ?_ _ | refine blk_drew ?_ | refine blk_alloc ?_ _)); refine blk_put (cs := #[.int .i64 t515, .string t516, .string t517, .slice Ao19 t518.length co19, .int .i64 0, .int .i64 0, .int .i64 0, .slice none 0 0]) ?_ 4 _ rfl; (with_reducible repeat (first | refine blk_drewN ?_ _ | refine blk_drew ?_ | refine blk_alloc ?_ _)); refine blk_put (cs := #[.int .i64 t515, .string t516, .string t517, .slice none 0 0, .int .i64 0, .int .i64 0, .int .i64 0, .slice none 0 0]) ?_ 3 _ rfl; (with_reducible repeat (first | refine blk_drewN ?_ _ | refine blk_drew ?_ | refine blk_alloc ?_ _)); refine blk_put (cs := #[.int .i64 t515, .string t516, .string (⟨#[]⟩ : ByteArray), .slice none 0 0, .int .i64 0, .int .i64 0, .int .i64 0, .slice none 0 0]) ?_ 2 _ rfl; (with_reducible repeat (first | refine blk_drewN ?_ _ | refine blk_drew ?_ | refine blk_alloc ?_ _)); refine blk_put (cs := #[.int .i64 t515, .string (⟨#[]⟩ : ByteArray), .string (⟨#[]⟩ : ByteArray), .slice none 0 0, .int .i64 0, .int .i64 0, .int .i64 0, .slice none 0 0]) ?_ 1 _ rfl; (with_reducible repeat (first | refine blk_drewN ?_ _ | refine blk_drew ?_ | refine blk_alloc ?_ _)); refine blk_put (cs := #[.int .i64 0, .string (⟨#[]⟩ : ByteArray), .string (⟨#[]⟩ : ByteArray), .slice none 0 0, .int .i64 0, .int .i64 0, .int .i64 0, .slice none 0 0]) ?_ 0 _ rfl; exact blf_))⟩; have n4_ : Aside0 (Below w.heap.size w w21) := ⟨(by rw [hw]; exact (hs_))⟩; clear hw HO_4 HO520 HO526 BK528 HB; have HO_4 := n0_; have HO520 := n1_; have HO526 := n2_; have BK528 := n3_; have HB := n4_; clear n0_ n1_ n2_ n3_ n4_; obtain ⟨_, _, _, _, _, _, _, _⟩ := blk_cells8 BK528.out; obtain ⟨_, _, _, _, _, _, _, _⟩ := blk_frozen8 BK528.out) | ((with_reducible refine gate_builtin (b := .append) (xs := #[.tmp 20, .tmp 22]) rfl ?_); at_builtin; refine Kd.S_append k37 (w0 := w) w.heap.size rfl (.tmp 20) (.tmp 22) 28 37 (.agg #[(.int .i64 0), (.string ⟨#[]⟩), (.string ⟨#[]⟩), (.slice none 0 0), (.int .i64 0), (.int .i64 0), (.int .i64 0), (.slice none 0 0)]) 112 rfl Try.underlying28 info37 rfl (by decide) (by omega) u4 x4_1 (⟨t515, t516, t517, t518, t521, t522, t523, t524⟩ : S37) [.int .i64 t515, .string t516, .string t517, .slice Ao19 t518.length co19, .int .i64 t521, .int .i64 t522, .int .i64 t523, .slice Ao20 t524.length co20] (fun k_ => k_ ≠ gb528) (fun k_ => some k_ = (.slice Ao19 t518.length co19 : Value).ownBlock ∨ some k_ = (.slice Ao20 t524.length co20 : Value).ownBlock) rfl rfl ?aP (fun k_ hq_ => hq_.elim (fun h_ => ((Kd.R_mono (ok' := fun k_ => ((fun k_ => k_ ≠ gb528)) k_ ∧ some k_ ≠ (u4 : Value).ownBlock) (Kd.R_types (Kd.R_apart' (HO520.out) (Kd.S_typed HO_4.out) (by decide)) BK528.out (by decide)) (fun k_ hk => ⟨hk.2, hk.1.2⟩))).1 k_ h_.symm) (fun h_ => ((Kd.R_mono (ok' := fun k_ => ((fun k_ => k_ ≠ gb528)) k_ ∧ some k_ ≠ (u4 : Value).ownBlock) (Kd.R_types (Kd.R_apart' (HO526.out) (Kd.S_typed HO_4.out) (by decide)) BK528.out (by decide)) (fun k_ hk => ⟨hk.2, hk.1.2⟩))).1 k_ h_.symm)) ?aF ?aO ?aB ?aS ?aL ?_; (case aP => exact k37_mkM _ _ _ (⟨t515, t516, t517, t518, t521, t522, t523, t524⟩ : S37) (Kd.R_mono (Kd.R_tight rfl (Kd.R_mono (ok' := fun k_ => ((fun k_ => k_ ≠ gb528)) k_ ∧ some k_ ≠ (u4 : Value).ownBlock) (Kd.R_types (Kd.R_apart' (HO520.out) (Kd.S_typed HO_4.out) (by decide)) BK528.out (by decide)) (fun k_ hk => ⟨hk.2, hk.1.2⟩))) (fun _ h_ => Or.inl h_)) (Kd.R_mono (Kd.R_tight rfl (Kd.R_mono (ok' := fun k_ => ((fun k_ => k_ ≠ gb528)) k_ ∧ some k_ ≠ (u4 : Value).ownBlock) (Kd.R_types (Kd.R_apart' (HO526.out) (Kd.S_typed HO_4.out) (by decide)) BK528.out (by decide)) (fun k_ hk => ⟨hk.2, hk.1.2⟩))) (fun _ h_ => Or.inr (h_)))); (case aB => exact (hs_)); (case aF => exact (fun k_ hk => Kd.freshB (g := gb528) (blk_up BK528.out) k_ hk)); (case aO => exact (by (with_reducible repeat (first | apply Kd.S_alloc | apply Kd.S_drewN | apply Kd.S_drew)); exact Kd.S_mono HO_4.out (fun k_ hk => ⟨hk.2.2, fun e_ => e_.elim (fun h_ => hk.1 h_) (fun h_ => hk.2.1 h_)⟩))); (case aS => exact (below_size (hs_))); (case aL => have := LMc14.out; omega); intro v530 w23 ho hb hg hat; rw [← Ny529.out] at ho; have n0_ := Aside0.mk (blk_grown (g := gb528) (blk_up BK528.out) hg (Kd.S_away HO_4.out (fun _ hk => hk.2.2))); have n1_ := Aside0.mk hb; have n2_ := Aside0.mk ho; clear BK528 HB HO_4 HO520 HO526; have BK528 := n0_; have HB := n1_; have HO531 := n2_; clear n0_ n1_ n2_ ho hb hg hat))
      go_roundg k1
      case measure => have := HK1.out; omega
      case rel => exact ⟨(y529), (wrap64 (x5_1 + t527)), vl_, H', ⟨by have := HK1.out; omega⟩, ⟨by (with_reducible repeat (first | apply Kd.S_alloc | apply Kd.S_drewN | apply Kd.S_drew)); exact Kd.S_mono HO531.out (fun _ hk => trivial)⟩, ⟨hs_⟩⟩
    · rw [if_neg c4] at H
      exact absurd H (by simp)

/-! ### impl_ReadJournal: function 26 -/
def impl_ReadJournal.f (k : Nat) (l0 : List Int) : Option (Int × Int × (List (S37))) := if (l0.length : Int) > 8000 then (some (2, 0, ([] : List (S37)))) else ((impl_readOps.f k l0).bind fun bt533 => (some (0, bt533.2, bt533.1)))
theorem impl_ReadJournal.calls (k : Nat) (A0 : Option Addr) (c0 : Nat) (l0 : List Int) (r1 : Int) (r2 : Int) (r3 : List (S37)) (w : World) (hr0 : Kd.C (Kd.int .u8) w A0 l0.length l0) (hc0 : l0.length ≤ c0) (h : impl_ReadJournal.f k l0 = some (r1, r2, r3)) :
 Calls Try.prog 26 #[.slice A0 l0.length c0] w fun e w' => ∃ v2_ : Value, e = .returned (.agg #[.int .i64 r1, .int .i64 r2, v2_]) ∧ Kd.S k37 37 w' w.heap.size (fun _ => True) v2_ r3 ∧ Below w.heap.size w w' := by
 have hu48 := Try.underlying48; have HR0 := Aside0.mk hr0; have HC0 := Aside0.mk hc0; clear hr0 hc0; have HB := Aside0.mk (Below.refl w.heap.size w); have H := h; unfold impl_ReadJournal.f at H; clear h
 by_cases c2 : (l0.length : Int) > 8000
 ·
  rw [if_pos c2] at H; have c2b0 : decide (8000 < (l0.length : Int)) = true := decide_eq_true c2; have c2b1 : decide (8000 < l0.length) = true := decide_eq_true (by omega); clear c2; simp only [Option.some.injEq, Prod.mk.injEq] at H; obtain ⟨rfl, rfl, rfl⟩ := H
  go_enter Try.func26, Try.ntmps26
  go_wp2_with (first | ((with_reducible refine gate_dst (N := 2) rfl ?_); refine box_event ?hg (N := 2) ?hd (cs := #[.int .i64 0, .int .i64 0, .slice none 0 0]) (t := 48) ?hr ?_; (case hd => rfl); (case hg => rfl); (case hr => first | (go_simp; done) | (go_simp; rfl)); intro gb532 hg w3 hbox hb; have BK532 := Aside0.mk hbox; have GW532 := ge_ HB hg hs_; have GE532 := ge_ HB hg hs_; replace HB := Aside0.mk (below_step hs_ hb); clear hb hbox hg; have hcz4_0 : w3.cell? ⟨gb532, 0, none⟩ = some (.int .i64 0) := (blk_cell BK532.out 0).trans rfl; have hcz4_1 : w3.cell? ⟨gb532, 1, none⟩ = some (.int .i64 0) := (blk_cell BK532.out 1).trans rfl; have hcz4_2 : w3.cell? ⟨gb532, 2, none⟩ = some (.slice none 0 0) := (blk_cell BK532.out 2).trans rfl; have hfz4_0 := blk_frozen BK532.out 0; have hfz4_1 := blk_frozen BK532.out 1; have hfz4_2 := blk_frozen BK532.out 2))
  refine bodyPost_ret (results_cell_row rfl _ _ gb532 48 #[.int .i64 2, .int .i64 0, .slice none 0 0] (0, 0) _ rfl (bq_) Try.underlying48 rfl (by kernel_rfl)) rfl ?_
  exact ⟨_, ve_, by first | exact Kd.S_nil _ _ _ _ _ | exact Kd.N_nil _ _ _ _ _ | exact Kd.V_nil _ _ _ _ _ | exact Kd.Q_nil _ _ _ _ _ | exact Kd.R_nil _ _ _ _ _, hs_⟩
 ·
  rw [if_neg c2] at H; have c2b0 : decide (8000 < (l0.length : Int)) = false := decide_eq_false c2; have c2b1 : decide (8000 < l0.length) = false := decide_eq_false (by omega); clear c2; replace H := Option.bind_eq_some_iff.mp H; obtain ⟨⟨t533, t534⟩, A50, H⟩ := H; replace H : (some (0, t534, t533)) = some (r1, r2, r3) := H; have A5 := Aside0.mk A50; clear A50; simp only [Option.some.injEq, Prod.mk.injEq] at H; obtain ⟨rfl, rfl, rfl⟩ := H
  go_enter Try.func26, Try.ntmps26
  go_wp2_with (first | ((with_reducible refine gate_dst (N := 2) rfl ?_); refine box_event ?hg (N := 2) ?hd (cs := #[.int .i64 0, .int .i64 0, .slice none 0 0]) (t := 48) ?hr ?_; (case hd => rfl); (case hg => rfl); (case hr => first | (go_simp; done) | (go_simp; rfl)); intro gb532 hg w6 hbox hb; have BK532 := Aside0.mk hbox; have GW532 := ge_ HB hg hs_; have GE532 := ge_ HB hg hs_; replace HB := Aside0.mk (below_step hs_ hb); clear hb hbox hg) | ((with_reducible refine gate_callee (f := 55) rfl ?_); refine goesY_ (some 11) Try.func55 #[.slice A0 l0.length c0] rfl ?_; (with_reducible refine (impl_readOps.calls k _ _ l0 t533 t534 _ ?_ ?_ A5.out).mono ?_); exact cu_ HR0 HB; exact HC0.out; rintro e w7 ⟨v535, rfl, ho0, hb⟩; refine ⟨_, rfl, ?_⟩; have HO536 := Aside0.mk (Kd.S_lower ho0 (below_size (hs_))); replace BK532 := bb_ BK532 hb; replace HB := bt_ HB hb hs_; (try clear hb); (try clear ho0); obtain ⟨Ao8, co8, eo8⟩ := Kd.S_slice HO536.out; subst eo8; have hcz9_0 : w7.cell? ⟨gb532, 0, none⟩ = some (.int .i64 0) := (blk_cell BK532.out 0).trans rfl; have hcz9_1 : w7.cell? ⟨gb532, 1, none⟩ = some (.int .i64 0) := (blk_cell BK532.out 1).trans rfl; have hcz9_2 : w7.cell? ⟨gb532, 2, none⟩ = some (.slice none 0 0) := (blk_cell BK532.out 2).trans rfl; have hfz9_0 := blk_frozen BK532.out 0; have hfz9_1 := blk_frozen BK532.out 1; have hfz9_2 := blk_frozen BK532.out 2))
  refine bodyPost_ret (results_cell_row rfl _ _ gb532 48 #[.int .i64 0, .int .i64 t534, .slice Ao8 t533.length co8] (0, 0) _ rfl (bq_) Try.underlying48 rfl (by kernel_rfl)) rfl ?_
  exact ⟨_, ve_, by (with_reducible repeat (first | apply Kd.S_alloc | apply Kd.S_drewN | apply Kd.S_drew)); exact Kd.S_mono (Kd.S_far (p := ⟨gb532, 2, none⟩) (Kd.S_far (p := ⟨gb532, 1, none⟩) (Kd.S_far (p := ⟨gb532, 0, none⟩) (Kd.S_types HO536.out BK532.out (by decide)) (fun _ hk => hk.2) (.int .i64 0)) (fun _ hk => hk.2) (.int .i64 t534)) (fun _ hk => hk.2) (.slice Ao8 t533.length co8)) (fun _ hk => trivial), hs_⟩

/-! ### laws_lwBig: function 30 -/
def laws_lwBig.f (l0 : List Int) : Option (Bool) := some (decide ((l0.length : Int) > 1048576))
theorem laws_lwBig.calls (A0 : Option Addr) (c0 : Nat) (l0 : List Int) (r : Bool) (w : World) (hr0 : Kd.C (Kd.int .u8) w A0 l0.length l0) (hc0 : l0.length ≤ c0) (h : laws_lwBig.f l0 = some r) :
 Calls Try.prog 30 #[.slice A0 l0.length c0] w fun e w' => e = .returned (.bool r) ∧ Drawn0 w w' := by
 have HR0 := Aside0.mk hr0; have HC0 := Aside0.mk hc0; clear hr0 hc0; have H := h; unfold laws_lwBig.f at H; clear h; obtain rfl := Option.some.inj H
 go_enter Try.func30, Try.ntmps30
 go_wp2
 go_ret
 exact ⟨vl_, dr_⟩

/-! ### laws_lwSame: function 32 -/
def laws_lwSame.f (l0 : List Int) (l1 : List Int) : Option (Bool) := some ((strOfNums l0).toList == (strOfNums l1).toList)
theorem laws_lwSame.calls (A0 : Option Addr) (c0 : Nat) (l0 : List Int) (A1 : Option Addr) (c1 : Nat) (l1 : List Int) (r : Bool) (w : World) (hr0 : Kd.C (Kd.int .u8) w A0 l0.length l0) (hc0 : l0.length ≤ c0) (hr1 : Kd.C (Kd.int .u8) w A1 l1.length l1) (hc1 : l1.length ≤ c1) (h : laws_lwSame.f l0 l1 = some r) :
 Calls Try.prog 32 #[.slice A0 l0.length c0, .slice A1 l1.length c1] w fun e w' => e = .returned (.bool r) ∧ Drawn0 w w' := by
 have HR0 := Aside0.mk hr0; have HC0 := Aside0.mk hc0; clear hr0 hc0; have HR1 := Aside0.mk hr1; have HC1 := Aside0.mk hc1; clear hr1 hc1; have H := h; unfold laws_lwSame.f at H; clear h; obtain rfl := Option.some.inj H; have hcv3 := Kd.C_string (P := Try.prog) (A := A0) (c := c0) Try.underlying24 Try.underlying5 Try.underlying9 HR0.out
 have hcq4 := fun (nq_ : Nat) => Kd.C_string (P := Try.prog) (A := A0) (c := c0) Try.underlying24 Try.underlying5 Try.underlying9 (Kd.C_drewN HR0.out nq_)
 have hcv5 := Kd.C_string (P := Try.prog) (A := A1) (c := c1) Try.underlying24 Try.underlying5 Try.underlying9 HR1.out
 have hcq6 := fun (nq_ : Nat) => Kd.C_string (P := Try.prog) (A := A1) (c := c1) Try.underlying24 Try.underlying5 Try.underlying9 (Kd.C_drewN HR1.out nq_)
 go_enter Try.func32, Try.ntmps32
 go_wp2
 go_ret
 exact ⟨vl_, dr_⟩

/-! ### laws_lwAt: function 36 -/
def laws_lwAt.f (l0 : List Int) (a1 : Int) (a2 : Int) : Option (Int) := if a2 ≤ 1 then (some 0) else (if (l0.length : Int) = 0 then (if a2 = 0 then (none) else (some (Int.tmod (wrap64 (a1 * 7)) a2))) else (if 0 ≤ (Int.tmod a1 (l0.length : Int)) then (if (Int.tmod a1 (l0.length : Int)) < (l0.length : Int) then (if a2 > 200 then (if 0 ≤ (Int.tmod (wrap64 (a1 + 1)) (l0.length : Int)) then (if (Int.tmod (wrap64 (a1 + 1)) (l0.length : Int)) < (l0.length : Int) then (if a2 = 0 then (none) else (some (Int.tmod (wrap64 ((wrap64 ((wrap64 ((wrap64 (rd l0 (Int.tmod a1 (l0.length : Int)))) + (wrap64 ((wrap64 (Int.tdiv a1 (l0.length : Int))) * 3)))) * 251)) + (wrap64 (rd l0 (Int.tmod (wrap64 (a1 + 1)) (l0.length : Int)))))) a2))) else (none)) else (none)) else (if a2 = 0 then (none) else (some (Int.tmod (wrap64 ((wrap64 (rd l0 (Int.tmod a1 (l0.length : Int)))) + (wrap64 ((wrap64 (Int.tdiv a1 (l0.length : Int))) * 3)))) a2)))) else (none)) else (none)))
theorem laws_lwAt.calls (A0 : Option Addr) (c0 : Nat) (l0 : List Int) (a1 : Int) (a2 : Int) (r : Int) (w : World) (hr0 : Kd.C (Kd.int .u8) w A0 l0.length l0) (hc0 : l0.length ≤ c0) (h : laws_lwAt.f l0 a1 a2 = some r) :
 Calls Try.prog 36 #[.slice A0 l0.length c0, .int .i64 a1, .int .i64 a2] w fun e w' => e = .returned (.int .i64 r) ∧ Drawn0 w w' := by
 have HR0 := Aside0.mk hr0; have HC0 := Aside0.mk hc0; clear hr0 hc0; have H := h; unfold laws_lwAt.f at H; clear h
 by_cases c4 : a2 ≤ 1
 ·
  rw [if_pos c4] at H; have c4b0 : decide (a2 ≤ 1) = true := decide_eq_true c4; clear c4; obtain rfl := Option.some.inj H
  go_enter Try.func36, Try.ntmps36
  go_wp2
  (repeat (go_quiet (fail); try go_wp2_with (fail)))
  go_ret
  exact ⟨vl_, dr_⟩
 ·
  rw [if_neg c4] at H; have c4b0 : decide (a2 ≤ 1) = false := decide_eq_false c4; clear c4
  by_cases c5 : (l0.length : Int) = 0
  ·
   rw [if_pos c5] at H; have c5b0 : ((l0.length : Int) == 0) = true := beq_iff_eq.mpr c5; have c5b1 : ((l0.length : Int) != 0) = false := bne_eq_false_iff_eq.mpr c5; clear c5
   by_cases c6 : a2 = 0
   · rw [if_pos c6] at H
     exact absurd H (by simp)
   ·
    rw [if_neg c6] at H; have c6b0 : (a2 == 0) = false := beq_eq_false_iff_ne.mpr c6; have c6b1 : (a2 != 0) = true := bne_iff_ne.mpr c6; obtain rfl := Option.some.inj H
    go_enter Try.func36, Try.ntmps36
    go_wp2
    (repeat (go_quiet (fail); try go_wp2_with (fail)))
    go_ret
    exact ⟨vl_, dr_⟩
  ·
   rw [if_neg c5] at H; have c5b0 : ((l0.length : Int) == 0) = false := beq_eq_false_iff_ne.mpr c5; have c5b1 : ((l0.length : Int) != 0) = true := bne_iff_ne.mpr c5
   have c5b2 : ¬ (l0 = []) := fun h_ => c5 (by rw [h_]; rfl)
   obtain ⟨ji7, hji7⟩ : ∃ j_ : Int, (Int.tmod a1 (l0.length : Int)) = j_ := ⟨_, rfl⟩
   replace H : (if 0 ≤ (ji7) then (if (ji7) < (l0.length : Int) then (if a2 > 200 then (if 0 ≤ (Int.tmod (wrap64 (a1 + 1)) (l0.length : Int)) then (if (Int.tmod (wrap64 (a1 + 1)) (l0.length : Int)) < (l0.length : Int) then (if a2 = 0 then (none) else (some (Int.tmod (wrap64 ((wrap64 ((wrap64 ((wrap64 (rd l0 (ji7))) + (wrap64 ((wrap64 (Int.tdiv a1 (l0.length : Int))) * 3)))) * 251)) + (wrap64 (rd l0 (Int.tmod (wrap64 (a1 + 1)) (l0.length : Int)))))) a2))) else (none)) else (none)) else (if a2 = 0 then (none) else (some (Int.tmod (wrap64 ((wrap64 (rd l0 (ji7))) + (wrap64 ((wrap64 (Int.tdiv a1 (l0.length : Int))) * 3)))) a2)))) else (none)) else (none)) = some r := by first | (rw [hji7] at H; exact H) | (simp only [hji7] at H ⊢; exact H)
   by_cases c8 : 0 ≤ (ji7)
   ·
    rw [if_pos c8] at H; have c8b0 : decide (0 ≤ (ji7)) = true := decide_eq_true c8; clear c8; obtain ⟨c9, H⟩ := ifc_ H; have c9b0 : decide ((ji7) < (l0.length : Int)) = true := decide_eq_true c9; clear c9
    by_cases c10 : a2 > 200
    ·
     rw [if_pos c10] at H; have c10b0 : decide (200 < a2) = true := decide_eq_true c10; clear c10; obtain ⟨ji11, hji11⟩ : ∃ j_ : Int, (Int.tmod (wrap64 (a1 + 1)) (l0.length : Int)) = j_ := ⟨_, rfl⟩
     replace H : (if 0 ≤ (ji11) then (if (ji11) < (l0.length : Int) then (if a2 = 0 then (none) else (some (Int.tmod (wrap64 ((wrap64 ((wrap64 ((wrap64 (rd l0 (ji7))) + (wrap64 ((wrap64 (Int.tdiv a1 (l0.length : Int))) * 3)))) * 251)) + (wrap64 (rd l0 (ji11))))) a2))) else (none)) else (none)) = some r := by first | (rw [hji11] at H; exact H) | (simp only [hji11] at H ⊢; exact H)
     obtain ⟨c12, H⟩ := ifc_ H; have c12b0 : decide (0 ≤ (ji11)) = true := decide_eq_true c12; clear c12; obtain ⟨c13, H⟩ := ifc_ H; have c13b0 : decide ((ji11) < (l0.length : Int)) = true := decide_eq_true c13; clear c13
     by_cases c14 : a2 = 0
     · rw [if_pos c14] at H
       exact absurd H (by simp)
     ·
      rw [if_neg c14] at H; have c14b0 : (a2 == 0) = false := beq_eq_false_iff_ne.mpr c14; have c14b1 : (a2 != 0) = true := bne_iff_ne.mpr c14; obtain rfl := Option.some.inj H; have p537 : 0 ≤ ((ji7) : Int) := od_; have q537 : (ji7) < (l0.length : Int) := od_; obtain ⟨ad537, e537, hx537_0⟩ := Kd.at_int HR0.out (ji7) p537 q537
      cases e537
      replace p537 := eq_true p537; replace q537 := eq_true q537; have p538 : 0 ≤ ((ji11) : Int) := od_; have q538 : (ji11) < (l0.length : Int) := od_; obtain ⟨ad538, e538, hx538_0⟩ := Kd.at_int HR0.out (ji11) p538 q538; obtain rfl : ad537 = ad538 := (by injection e538); replace p538 := eq_true p538; replace q538 := eq_true q538
      go_enter Try.func36, Try.ntmps36
      go_wp2
      (repeat (go_quiet (fail); try go_wp2_with (fail)))
      go_ret
      exact ⟨by first | rfl | (simp; done) | (simp only [← hji7, ← hji11] <;> (first | rfl | simp)) | (simp [*]; done) | (simp; generalize ByteArray.toList _ = zq_; cases zq_ <;> rfl), dr_⟩
    ·
     rw [if_neg c10] at H; have c10b0 : decide (200 < a2) = false := decide_eq_false c10; clear c10
     by_cases c15 : a2 = 0
     · rw [if_pos c15] at H
       exact absurd H (by simp)
     ·
      rw [if_neg c15] at H; have c15b0 : (a2 == 0) = false := beq_eq_false_iff_ne.mpr c15; have c15b1 : (a2 != 0) = true := bne_iff_ne.mpr c15; obtain rfl := Option.some.inj H; have p537 : 0 ≤ ((ji7) : Int) := od_; have q537 : (ji7) < (l0.length : Int) := od_; obtain ⟨ad537, e537, hx537_0⟩ := Kd.at_int HR0.out (ji7) p537 q537
      cases e537
      replace p537 := eq_true p537; replace q537 := eq_true q537
      go_enter Try.func36, Try.ntmps36
      go_wp2
      (repeat (go_quiet (fail); try go_wp2_with (fail)))
      go_ret
      exact ⟨by first | rfl | (simp; done) | (simp only [← hji7] <;> (first | rfl | simp)) | (simp [*]; done) | (simp; generalize ByteArray.toList _ = zq_; cases zq_ <;> rfl), dr_⟩
   · rw [if_neg c8] at H
     exact absurd H (by simp)

-- NOT PRINTED: function 63 (impl_Op)

/-! ### slices_Equal_int64_int64: function 98 -/
def slices_Equal_int64_int64.l0 : Nat → List Int → List Int → Int → Int → Option (Bool)
 | 0, _, _, _, _ => none
 | k + 1, x0, x1, x12, x13 => if x13 < x12 then (if 0 ≤ x13 then (if x13 < (x0.length : Int) then (if x13 < (x1.length : Int) then (if (rd x0 x13) = (rd x1 x13) then (slices_Equal_int64_int64.l0 k x0 x1 x12 (wrap64 (x13 + 1))) else (some false)) else (none)) else (none)) else (none)) else (some true)
def slices_Equal_int64_int64.f (k : Nat) (l0 : List Int) (l1 : List Int) : Option (Bool) := if (l0.length : Int) = (l1.length : Int) then (slices_Equal_int64_int64.l0 k l0 l1 (l0.length : Int) 0) else (some false)
theorem slices_Equal_int64_int64.calls (k : Nat) (A0 : Option Addr) (c0 : Nat) (l0 : List Int) (A1 : Option Addr) (c1 : Nat) (l1 : List Int) (r : Bool) (w : World) (hr0 : Kd.C (Kd.int .i64) w A0 l0.length l0) (hc0 : l0.length ≤ c0) (hr1 : Kd.C (Kd.int .i64) w A1 l1.length l1) (hc1 : l1.length ≤ c1) (h : slices_Equal_int64_int64.f k l0 l1 = some r) :
 Calls Try.prog 98 #[.slice A0 l0.length c0, .slice A1 l1.length c1] w fun e w' => e = .returned (.bool r) ∧ Drawn0 w w' := by
 have HR0 := Aside0.mk hr0; have HC0 := Aside0.mk hc0; clear hr0 hc0; have HR1 := Aside0.mk hr1; have HC1 := Aside0.mk hc1; clear hr1 hc1; have H := h; unfold slices_Equal_int64_int64.f at H; clear h
 by_cases c3 : (l0.length : Int) = (l1.length : Int)
 ·
  rw [if_pos c3] at H; have c3b0 : ((l0.length : Int) == (l1.length : Int)) = true := beq_iff_eq.mpr c3; have c3b1 : ((l0.length : Int) != (l1.length : Int)) = false := bne_eq_false_iff_eq.mpr c3
  have c3b2 : (l0.length == l1.length) = true := by first | simpa using c3 | (simp at c3 ⊢; omega)
  clear c3; have H' := Aside0.mk H; clear H
  go_enter Try.func98, Try.ntmps98
  go_wp2
  (repeat (go_quiet (fail); try go_wp2_with (fail)))
  go_loopg [13] k (fun kq v13 w' => ∃ (x13_1 : Int), v13 = .int .i64 x13_1 ∧ Aside0 (slices_Equal_int64_int64.l0 kq l0 l1 (l0.length : Int) x13_1 = some r) ∧ Aside0 (kq ≤ k) ∧ Drawn0 w w')
  case atStart => exact ⟨(0), vl_, H', ⟨Nat.le_refl _⟩, dr_⟩
  case round =>
   clear H'; (try clear c1); (try clear c3); (try clear c3b0); (try clear c3b1); (try clear c3b2); obtain ⟨x13_1, rfl, HA, HK1, ⟨m1, rfl⟩⟩ := hrel
   cases gk with
   | zero => exact absurd HA.out (by simp [slices_Equal_int64_int64.l0])
   | succ k1 =>
     have H := HA.out; clear HA; simp only [slices_Equal_int64_int64.l0] at H
     by_cases c4 : x13_1 < (l0.length : Int)
     ·
      rw [if_pos c4] at H; have c4b0 : decide (x13_1 < (l0.length : Int)) = true := decide_eq_true c4; clear c4; obtain ⟨c5, H⟩ := ifc_ H; have c5b0 : decide (0 ≤ x13_1) = true := decide_eq_true c5; clear c5; obtain ⟨c6, H⟩ := ifc_ H; have c6b0 : decide (x13_1 < (l0.length : Int)) = true := decide_eq_true c6; clear c6; obtain ⟨c7, H⟩ := ifc_ H; have c7b0 : decide (x13_1 < (l1.length : Int)) = true := decide_eq_true c7; clear c7; have p539 : 0 ≤ (x13_1 : Int) := od_; have q539 : x13_1 < (l0.length : Int) := od_; obtain ⟨ad539, e539, hx539_0⟩ := Kd.at_int HR0.out x13_1 p539 q539
      cases e539
      replace p539 := eq_true p539; replace q539 := eq_true q539; have p540 : 0 ≤ (x13_1 : Int) := od_; have q540 : x13_1 < (l1.length : Int) := od_; obtain ⟨ad540, e540, hx540_0⟩ := Kd.at_int HR1.out x13_1 p540 q540
      cases e540
      replace p540 := eq_true p540; replace q540 := eq_true q540
      by_cases c8 : (rd l0 x13_1) = (rd l1 x13_1)
      ·
       rw [if_pos c8] at H; have c8b0 : ((rd l0 x13_1) == (rd l1 x13_1)) = true := beq_iff_eq.mpr c8; have c8b1 : ((rd l0 x13_1) != (rd l1 x13_1)) = false := bne_eq_false_iff_eq.mpr c8; clear c8; have H' := Aside0.mk H; clear H
       go_wp2
       (repeat (go_quiet (fail); try go_wp2_with (fail)))
       go_roundg k1
       case measure => have := HK1.out; omega
       case rel => exact ⟨(wrap64 (x13_1 + 1)), vl_, H', ⟨by have := HK1.out; omega⟩, dr_⟩
      ·
       rw [if_neg c8] at H; have c8b0 : ((rd l0 x13_1) == (rd l1 x13_1)) = false := beq_eq_false_iff_ne.mpr c8; have c8b1 : ((rd l0 x13_1) != (rd l1 x13_1)) = true := bne_iff_ne.mpr c8; obtain rfl := Option.some.inj H
       go_wp2
       (repeat (go_quiet (fail); try go_wp2_with (fail)))
       go_ret
       exact ⟨vl_, dr_⟩
     ·
      rw [if_neg c4] at H; have c4b0 : decide (x13_1 < (l0.length : Int)) = false := decide_eq_false c4; clear c4; obtain rfl := Option.some.inj H
      go_wp2
      (repeat (go_quiet (fail); try go_wp2_with (fail)))
      go_ret
      exact ⟨vl_, dr_⟩
 ·
  rw [if_neg c3] at H; have c3b0 : ((l0.length : Int) == (l1.length : Int)) = false := beq_eq_false_iff_ne.mpr c3; have c3b1 : ((l0.length : Int) != (l1.length : Int)) = true := bne_iff_ne.mpr c3
  have c3b2 : (l0.length == l1.length) = false := by first | simpa using c3 | (simp at c3 ⊢; omega)
  obtain rfl := Option.some.inj H
  go_enter Try.func98, Try.ntmps98
  go_wp2
  (repeat (go_quiet (fail); try go_wp2_with (fail)))
  go_ret
  exact ⟨vl_, dr_⟩

/-! ### slices_Equal_byte_byte: function 99 -/
def slices_Equal_byte_byte.l0 : Nat → List Int → List Int → Int → Int → Option (Bool)
 | 0, _, _, _, _ => none
 | k + 1, x0, x1, x12, x13 => if x13 < x12 then (if 0 ≤ x13 then (if x13 < (x0.length : Int) then (if x13 < (x1.length : Int) then (if (rd x0 x13) = (rd x1 x13) then (slices_Equal_byte_byte.l0 k x0 x1 x12 (wrap64 (x13 + 1))) else (some false)) else (none)) else (none)) else (none)) else (some true)
def slices_Equal_byte_byte.f (k : Nat) (l0 : List Int) (l1 : List Int) : Option (Bool) := if (l0.length : Int) = (l1.length : Int) then (slices_Equal_byte_byte.l0 k l0 l1 (l0.length : Int) 0) else (some false)
theorem slices_Equal_byte_byte.calls (k : Nat) (A0 : Option Addr) (c0 : Nat) (l0 : List Int) (A1 : Option Addr) (c1 : Nat) (l1 : List Int) (r : Bool) (w : World) (hr0 : Kd.C (Kd.int .u8) w A0 l0.length l0) (hc0 : l0.length ≤ c0) (hr1 : Kd.C (Kd.int .u8) w A1 l1.length l1) (hc1 : l1.length ≤ c1) (h : slices_Equal_byte_byte.f k l0 l1 = some r) :
 Calls Try.prog 99 #[.slice A0 l0.length c0, .slice A1 l1.length c1] w fun e w' => e = .returned (.bool r) ∧ Drawn0 w w' := by
 have HR0 := Aside0.mk hr0; have HC0 := Aside0.mk hc0; clear hr0 hc0; have HR1 := Aside0.mk hr1; have HC1 := Aside0.mk hc1; clear hr1 hc1; have H := h; unfold slices_Equal_byte_byte.f at H; clear h
 by_cases c3 : (l0.length : Int) = (l1.length : Int)
 ·
  rw [if_pos c3] at H; have c3b0 : ((l0.length : Int) == (l1.length : Int)) = true := beq_iff_eq.mpr c3; have c3b1 : ((l0.length : Int) != (l1.length : Int)) = false := bne_eq_false_iff_eq.mpr c3
  have c3b2 : (l0.length == l1.length) = true := by first | simpa using c3 | (simp at c3 ⊢; omega)
  clear c3; have H' := Aside0.mk H; clear H
  go_enter Try.func99, Try.ntmps99
  go_wp2
  (repeat (go_quiet (fail); try go_wp2_with (fail)))
  go_loopg [13] k (fun kq v13 w' => ∃ (x13_1 : Int), v13 = .int .i64 x13_1 ∧ Aside0 (slices_Equal_byte_byte.l0 kq l0 l1 (l0.length : Int) x13_1 = some r) ∧ Aside0 (kq ≤ k) ∧ Drawn0 w w')
  case atStart => exact ⟨(0), vl_, H', ⟨Nat.le_refl _⟩, dr_⟩
  case round =>
   clear H'; (try clear c1); (try clear c3); (try clear c3b0); (try clear c3b1); (try clear c3b2); obtain ⟨x13_1, rfl, HA, HK1, ⟨m1, rfl⟩⟩ := hrel
   cases gk with
   | zero => exact absurd HA.out (by simp [slices_Equal_byte_byte.l0])
   | succ k1 =>
     have H := HA.out; clear HA; simp only [slices_Equal_byte_byte.l0] at H
     by_cases c4 : x13_1 < (l0.length : Int)
     ·
      rw [if_pos c4] at H; have c4b0 : decide (x13_1 < (l0.length : Int)) = true := decide_eq_true c4; clear c4; obtain ⟨c5, H⟩ := ifc_ H; have c5b0 : decide (0 ≤ x13_1) = true := decide_eq_true c5; clear c5; obtain ⟨c6, H⟩ := ifc_ H; have c6b0 : decide (x13_1 < (l0.length : Int)) = true := decide_eq_true c6; clear c6; obtain ⟨c7, H⟩ := ifc_ H; have c7b0 : decide (x13_1 < (l1.length : Int)) = true := decide_eq_true c7; clear c7; have p541 : 0 ≤ (x13_1 : Int) := od_; have q541 : x13_1 < (l0.length : Int) := od_; obtain ⟨ad541, e541, hx541_0⟩ := Kd.at_int HR0.out x13_1 p541 q541
      cases e541
      replace p541 := eq_true p541; replace q541 := eq_true q541; have p542 : 0 ≤ (x13_1 : Int) := od_; have q542 : x13_1 < (l1.length : Int) := od_; obtain ⟨ad542, e542, hx542_0⟩ := Kd.at_int HR1.out x13_1 p542 q542
      cases e542
      replace p542 := eq_true p542; replace q542 := eq_true q542
      by_cases c8 : (rd l0 x13_1) = (rd l1 x13_1)
      ·
       rw [if_pos c8] at H; have c8b0 : ((rd l0 x13_1) == (rd l1 x13_1)) = true := beq_iff_eq.mpr c8; have c8b1 : ((rd l0 x13_1) != (rd l1 x13_1)) = false := bne_eq_false_iff_eq.mpr c8; clear c8; have H' := Aside0.mk H; clear H
       go_wp2
       (repeat (go_quiet (fail); try go_wp2_with (fail)))
       go_roundg k1
       case measure => have := HK1.out; omega
       case rel => exact ⟨(wrap64 (x13_1 + 1)), vl_, H', ⟨by have := HK1.out; omega⟩, dr_⟩
      ·
       rw [if_neg c8] at H; have c8b0 : ((rd l0 x13_1) == (rd l1 x13_1)) = false := beq_eq_false_iff_ne.mpr c8; have c8b1 : ((rd l0 x13_1) != (rd l1 x13_1)) = true := bne_iff_ne.mpr c8; obtain rfl := Option.some.inj H
       go_wp2
       (repeat (go_quiet (fail); try go_wp2_with (fail)))
       go_ret
       exact ⟨vl_, dr_⟩
     ·
      rw [if_neg c4] at H; have c4b0 : decide (x13_1 < (l0.length : Int)) = false := decide_eq_false c4; clear c4; obtain rfl := Option.some.inj H
      go_wp2
      (repeat (go_quiet (fail); try go_wp2_with (fail)))
      go_ret
      exact ⟨vl_, dr_⟩
 ·
  rw [if_neg c3] at H; have c3b0 : ((l0.length : Int) == (l1.length : Int)) = false := beq_eq_false_iff_ne.mpr c3; have c3b1 : ((l0.length : Int) != (l1.length : Int)) = true := bne_iff_ne.mpr c3
  have c3b2 : (l0.length == l1.length) = false := by first | simpa using c3 | (simp at c3 ⊢; omega)
  obtain rfl := Option.some.inj H
  go_enter Try.func99, Try.ntmps99
  go_wp2
  (repeat (go_quiet (fail); try go_wp2_with (fail)))
  go_ret
  exact ⟨vl_, dr_⟩

/-! ### impl_sameOp: function 64 -/
def impl_sameOp.f (k : Nat) (a0_0 : Int) (a0_1 : ByteArray) (a0_2 : ByteArray) (l0_3 : List Int) (a0_4 : Int) (a0_5 : Int) (a0_6 : Int) (l0_7 : List Int) (a1_0 : Int) (a1_1 : ByteArray) (a1_2 : ByteArray) (l1_3 : List Int) (a1_4 : Int) (a1_5 : Int) (a1_6 : Int) (l1_7 : List Int) : Option (Bool) := if a0_0 = a1_0 then (if a0_1.toList = a1_1.toList then (if a0_2.toList = a1_2.toList then ((slices_Equal_int64_int64.f k l0_3 l1_3).bind fun t545 => (if t545 = true then (if a0_4 = a1_4 then (if a0_5 = a1_5 then (if a0_6 = a1_6 then ((slices_Equal_byte_byte.f k l0_7 l1_7).bind fun t546 => (some t546)) else (some false)) else (some false)) else (some false)) else (some false))) else (some false)) else (some false)) else (some false)
def impl_sameOp.Tag (_ : Nat) (p : Prop) : Prop := p
theorem impl_sameOp.Tag.un {n : Nat} {p : Prop} (h : impl_sameOp.Tag n p) : p := h
theorem impl_sameOp.Tag.mk (n : Nat) {p : Prop} (h : p) : impl_sameOp.Tag n p := h
theorem impl_sameOp.calls (k : Nat) (a0_0 : Int) (a0_1 : ByteArray) (a0_2 : ByteArray) (A0_3 : Option Addr) (c0_3 : Nat) (l0_3 : List Int) (a0_4 : Int) (a0_5 : Int) (a0_6 : Int) (A0_7 : Option Addr) (c0_7 : Nat) (l0_7 : List Int) (a1_0 : Int) (a1_1 : ByteArray) (a1_2 : ByteArray) (A1_3 : Option Addr) (c1_3 : Nat) (l1_3 : List Int) (a1_4 : Int) (a1_5 : Int) (a1_6 : Int) (A1_7 : Option Addr) (c1_7 : Nat) (l1_7 : List Int) (r : Bool) (w : World) (hr0_3 : Kd.C (Kd.int .i64) w A0_3 l0_3.length l0_3) (hc0_3 : l0_3.length ≤ c0_3) (hr0_7 : Kd.C (Kd.int .u8) w A0_7 l0_7.length l0_7) (hc0_7 : l0_7.length ≤ c0_7) (hr1_3 : Kd.C (Kd.int .i64) w A1_3 l1_3.length l1_3) (hc1_3 : l1_3.length ≤ c1_3) (hr1_7 : Kd.C (Kd.int .u8) w A1_7 l1_7.length l1_7) (hc1_7 : l1_7.length ≤ c1_7) (h : impl_sameOp.f k a0_0 a0_1 a0_2 l0_3 a0_4 a0_5 a0_6 l0_7 a1_0 a1_1 a1_2 l1_3 a1_4 a1_5 a1_6 l1_7 = some r) :
 Calls Try.prog 64 #[.agg #[.int .i64 a0_0, .string a0_1, .string a0_2, .slice A0_3 l0_3.length c0_3, .int .i64 a0_4, .int .i64 a0_5, .int .i64 a0_6, .slice A0_7 l0_7.length c0_7], .agg #[.int .i64 a1_0, .string a1_1, .string a1_2, .slice A1_3 l1_3.length c1_3, .int .i64 a1_4, .int .i64 a1_5, .int .i64 a1_6, .slice A1_7 l1_7.length c1_7]] w fun e w' => e = .returned (.bool r) ∧ Below w.heap.size w w' := by
 have hu37 := Try.underlying37; have HR0_3 := Aside0.mk hr0_3; have HC0_3 := Aside0.mk hc0_3; clear hr0_3 hc0_3; have HR0_7 := Aside0.mk hr0_7; have HC0_7 := Aside0.mk hc0_7; clear hr0_7 hc0_7; have HR1_3 := Aside0.mk hr1_3; have HC1_3 := Aside0.mk hc1_3; clear hr1_3 hc1_3; have HR1_7 := Aside0.mk hr1_7; have HC1_7 := Aside0.mk hc1_7; clear hr1_7 hc1_7; have HB := Aside0.mk (Below.refl w.heap.size w); have H := h; unfold impl_sameOp.f at H; clear h
 by_cases c3 : a0_0 = a1_0
 focus
  rw [if_pos c3] at H; have c3b0 : (a0_0 == a1_0) = true := beq_iff_eq.mpr c3; have c3b1 : (a0_0 != a1_0) = false := bne_eq_false_iff_eq.mpr c3; clear c3
  by_cases c4 : a0_1.toList = a1_1.toList
  focus
   rw [if_pos c4] at H; have c4b0 : (a0_1.toList == a1_1.toList) = true := beq_iff_eq.mpr c4; have c4b1 : (a0_1.toList != a1_1.toList) = false := bne_eq_false_iff_eq.mpr c4; clear c4
   by_cases c5 : a0_2.toList = a1_2.toList
   focus
    rw [if_pos c5] at H; have c5b0 : (a0_2.toList == a1_2.toList) = true := beq_iff_eq.mpr c5; have c5b1 : (a0_2.toList != a1_2.toList) = false := bne_eq_false_iff_eq.mpr c5; clear c5; obtain ⟨t545, A6, H⟩ := bd_ H; (try dsimp only at H)
    by_cases c7 : t545 = true
    focus
     subst c7; (try rw [if_pos rfl] at H)
     by_cases c8 : a0_4 = a1_4
     focus
      rw [if_pos c8] at H; have c8b0 : (a0_4 == a1_4) = true := beq_iff_eq.mpr c8; have c8b1 : (a0_4 != a1_4) = false := bne_eq_false_iff_eq.mpr c8; clear c8
      by_cases c9 : a0_5 = a1_5
      focus
       rw [if_pos c9] at H; have c9b0 : (a0_5 == a1_5) = true := beq_iff_eq.mpr c9; have c9b1 : (a0_5 != a1_5) = false := bne_eq_false_iff_eq.mpr c9; clear c9
       by_cases c10 : a0_6 = a1_6
       focus
        rw [if_pos c10] at H; have c10b0 : (a0_6 == a1_6) = true := beq_iff_eq.mpr c10; have c10b1 : (a0_6 != a1_6) = false := bne_eq_false_iff_eq.mpr c10; clear c10; replace H := Option.bind_eq_some_iff.mp H; obtain ⟨t546, A110, H⟩ := H; replace H : (some t546) = some r := H; have A11 := Aside0.mk A110; clear A110; obtain rfl := Option.some.inj H; refine impl_sameOp.Tag.un (n := 1) ?_
       rotate_left 1
       focus
        rw [if_neg c10] at H; have c10b0 : (a0_6 == a1_6) = false := beq_eq_false_iff_ne.mpr c10; have c10b1 : (a0_6 != a1_6) = true := bne_iff_ne.mpr c10; obtain rfl := Option.some.inj H; refine impl_sameOp.Tag.un (n := 2) ?_
      rotate_left 2
      focus
       rw [if_neg c9] at H; have c9b0 : (a0_5 == a1_5) = false := beq_eq_false_iff_ne.mpr c9; have c9b1 : (a0_5 != a1_5) = true := bne_iff_ne.mpr c9; obtain rfl := Option.some.inj H; refine impl_sameOp.Tag.un (n := 2) ?_
     rotate_left 3
     focus
      rw [if_neg c8] at H; have c8b0 : (a0_4 == a1_4) = false := beq_eq_false_iff_ne.mpr c8; have c8b1 : (a0_4 != a1_4) = true := bne_iff_ne.mpr c8; obtain rfl := Option.some.inj H; refine impl_sameOp.Tag.un (n := 2) ?_
    rotate_left 4
    focus
     replace c7 := Bool.eq_false_iff.mpr c7; subst c7; (try rw [if_neg (show ¬ (false = true) by decide)] at H); obtain rfl := Option.some.inj H; refine impl_sameOp.Tag.un (n := 3) ?_
   rotate_left 5
   focus
    rw [if_neg c5] at H; have c5b0 : (a0_2.toList == a1_2.toList) = false := beq_eq_false_iff_ne.mpr c5; have c5b1 : (a0_2.toList != a1_2.toList) = true := bne_iff_ne.mpr c5; obtain rfl := Option.some.inj H; refine impl_sameOp.Tag.un (n := 4) ?_
  rotate_left 6
  focus
   rw [if_neg c4] at H; have c4b0 : (a0_1.toList == a1_1.toList) = false := beq_eq_false_iff_ne.mpr c4; have c4b1 : (a0_1.toList != a1_1.toList) = true := bne_iff_ne.mpr c4; obtain rfl := Option.some.inj H; refine impl_sameOp.Tag.un (n := 4) ?_
 rotate_left 7
 focus
  rw [if_neg c3] at H; have c3b0 : (a0_0 == a1_0) = false := beq_eq_false_iff_ne.mpr c3; have c3b1 : (a0_0 != a1_0) = true := bne_iff_ne.mpr c3; obtain rfl := Option.some.inj H; refine impl_sameOp.Tag.un (n := 4) ?_
 all_goals first
  | (with_reducible refine impl_sameOp.Tag.mk 1 ?_)
    go_enter Try.func64, Try.ntmps64
    go_wp2_with (first | ((with_reducible refine gate_dst (N := 2) rfl ?_); refine box_event ?hg (N := 2) ?hd (cs := #[.int .i64 a0_0, .string a0_1, .string a0_2, .slice A0_3 l0_3.length c0_3, .int .i64 a0_4, .int .i64 a0_5, .int .i64 a0_6, .slice A0_7 l0_7.length c0_7]) (t := 37) ?hr ?_; (case hd => rfl); (case hg => rfl); (case hr => first | (go_simp; done) | (go_simp; rfl)); intro gb543 hg w12 hbox hb; have BK543 := Aside0.mk hbox; have GW543 := gu_ hg HB; have GE543 := gu_ hg HB; replace HB := bs_ HB hb; clear hb hbox hg) | ((with_reducible refine gate_dst (N := 3) rfl ?_); refine box_event ?hg (N := 3) ?hd (cs := #[.int .i64 a1_0, .string a1_1, .string a1_2, .slice A1_3 l1_3.length c1_3, .int .i64 a1_4, .int .i64 a1_5, .int .i64 a1_6, .slice A1_7 l1_7.length c1_7]) (t := 37) ?hr ?_; (case hd => rfl); (case hg => rfl); (case hr => first | (go_simp; done) | (go_simp; rfl)); intro gb544 hg w13 hbox hb; have BK544 := Aside0.mk hbox; have GW544 := gu_ hg HB; have GE544 := gu_ hg HB; replace HB := bs_ HB hb; have NB543_544 := nl_ hg BK543; have NB544_543 := ng_ hg BK543; replace BK543 := bb_ BK543 hb; clear hb hbox hg; have hnb14 := NB543_544.out; have hnc14 := NB544_543.out; obtain ⟨hcz15_0, hcz15_1, hcz15_2, hcz15_3, hcz15_4, hcz15_5, hcz15_6, hcz15_7⟩ := blk_cells8 BK543.out; obtain ⟨hfz15_0, hfz15_1, hfz15_2, hfz15_3, hfz15_4, hfz15_5, hfz15_6, hfz15_7⟩ := blk_frozen8 BK543.out; obtain ⟨hcz16_0, hcz16_1, hcz16_2, hcz16_3, hcz16_4, hcz16_5, hcz16_6, hcz16_7⟩ := blk_cells8 BK544.out; obtain ⟨hfz16_0, hfz16_1, hfz16_2, hfz16_3, hfz16_4, hfz16_5, hfz16_6, hfz16_7⟩ := blk_frozen8 BK544.out) | (go_at_call 98; (with_reducible refine (slices_Equal_int64_int64.calls k _ _ l0_3 _ _ l1_3 true _ ?_ ?_ ?_ ?_ A6.out).mono ?_); exact cu_ HR0_3 HB; exact HC0_3.out; exact cu_ HR1_3 HB; exact HC1_3.out; rintro e w' ⟨rfl, ⟨nd, rfl⟩⟩) | (go_at_call 99; (with_reducible refine (slices_Equal_byte_byte.calls k _ _ l0_7 _ _ l1_7 t546 _ ?_ ?_ ?_ ?_ A11.out).mono ?_); exact Kd.C_below HR0_7.out (HB_up HB.out); exact HC0_7.out; exact Kd.C_below HR1_7.out (HB_up HB.out); exact HC1_7.out; rintro e w' ⟨rfl, ⟨nd, rfl⟩⟩))
    go_ret
    exact ⟨ve_, hs_⟩
  | (with_reducible refine impl_sameOp.Tag.mk 2 ?_)
    go_enter Try.func64, Try.ntmps64
    go_wp2_with (first | ((with_reducible refine gate_dst (N := 2) rfl ?_); refine box_event ?hg (N := 2) ?hd (cs := #[.int .i64 a0_0, .string a0_1, .string a0_2, .slice A0_3 l0_3.length c0_3, .int .i64 a0_4, .int .i64 a0_5, .int .i64 a0_6, .slice A0_7 l0_7.length c0_7]) (t := 37) ?hr ?_; (case hd => rfl); (case hg => rfl); (case hr => first | (go_simp; done) | (go_simp; rfl)); intro gb543 hg w17 hbox hb; have BK543 := Aside0.mk hbox; have GW543 := gu_ hg HB; have GE543 := gu_ hg HB; replace HB := bs_ HB hb; clear hb hbox hg) | ((with_reducible refine gate_dst (N := 3) rfl ?_); refine box_event ?hg (N := 3) ?hd (cs := #[.int .i64 a1_0, .string a1_1, .string a1_2, .slice A1_3 l1_3.length c1_3, .int .i64 a1_4, .int .i64 a1_5, .int .i64 a1_6, .slice A1_7 l1_7.length c1_7]) (t := 37) ?hr ?_; (case hd => rfl); (case hg => rfl); (case hr => first | (go_simp; done) | (go_simp; rfl)); intro gb544 hg w18 hbox hb; have BK544 := Aside0.mk hbox; have GW544 := gu_ hg HB; have GE544 := gu_ hg HB; replace HB := bs_ HB hb; have NB543_544 := nl_ hg BK543; have NB544_543 := ng_ hg BK543; replace BK543 := bb_ BK543 hb; clear hb hbox hg; have hnb19 := NB543_544.out; have hnc19 := NB544_543.out; obtain ⟨_, _, _, _, _, _, _, _⟩ := blk_cells8 BK543.out; obtain ⟨_, _, _, _, _, _, _, _⟩ := blk_frozen8 BK543.out; obtain ⟨_, _, _, _, _, _, _, _⟩ := blk_cells8 BK544.out; obtain ⟨_, _, _, _, _, _, _, _⟩ := blk_frozen8 BK544.out) | (go_at_call 98; (with_reducible refine (slices_Equal_int64_int64.calls k _ _ l0_3 _ _ l1_3 true _ ?_ ?_ ?_ ?_ A6.out).mono ?_); exact cu_ HR0_3 HB; exact HC0_3.out; exact cu_ HR1_3 HB; exact HC1_3.out; rintro e w' ⟨rfl, ⟨nd, rfl⟩⟩))
    go_ret
    exact ⟨ve_, hs_⟩
  | (with_reducible refine impl_sameOp.Tag.mk 3 ?_)
    go_enter Try.func64, Try.ntmps64
    go_wp2_with (first | ((with_reducible refine gate_dst (N := 2) rfl ?_); refine box_event ?hg (N := 2) ?hd (cs := #[.int .i64 a0_0, .string a0_1, .string a0_2, .slice A0_3 l0_3.length c0_3, .int .i64 a0_4, .int .i64 a0_5, .int .i64 a0_6, .slice A0_7 l0_7.length c0_7]) (t := 37) ?hr ?_; (case hd => rfl); (case hg => rfl); (case hr => first | (go_simp; done) | (go_simp; rfl)); intro gb543 hg w32 hbox hb; have BK543 := Aside0.mk hbox; have GW543 := gu_ hg HB; have GE543 := gu_ hg HB; replace HB := bs_ HB hb; clear hb hbox hg) | ((with_reducible refine gate_dst (N := 3) rfl ?_); refine box_event ?hg (N := 3) ?hd (cs := #[.int .i64 a1_0, .string a1_1, .string a1_2, .slice A1_3 l1_3.length c1_3, .int .i64 a1_4, .int .i64 a1_5, .int .i64 a1_6, .slice A1_7 l1_7.length c1_7]) (t := 37) ?hr ?_; (case hd => rfl); (case hg => rfl); (case hr => first | (go_simp; done) | (go_simp; rfl)); intro gb544 hg w33 hbox hb; have BK544 := Aside0.mk hbox; have GW544 := gu_ hg HB; have GE544 := gu_ hg HB; replace HB := bs_ HB hb; have NB543_544 := nl_ hg BK543; have NB544_543 := ng_ hg BK543; replace BK543 := bb_ BK543 hb; clear hb hbox hg; have hnb34 := NB543_544.out; have hnc34 := NB544_543.out; obtain ⟨_, _, _, _, _, _, _, _⟩ := blk_cells8 BK543.out; obtain ⟨_, _, _, _, _, _, _, _⟩ := blk_frozen8 BK543.out; obtain ⟨_, _, _, _, _, _, _, _⟩ := blk_cells8 BK544.out; obtain ⟨_, _, _, _, _, _, _, _⟩ := blk_frozen8 BK544.out) | (go_at_call 98; (with_reducible refine (slices_Equal_int64_int64.calls k _ _ l0_3 _ _ l1_3 false _ ?_ ?_ ?_ ?_ A6.out).mono ?_); exact cu_ HR0_3 HB; exact HC0_3.out; exact cu_ HR1_3 HB; exact HC1_3.out; rintro e w' ⟨rfl, ⟨nd, rfl⟩⟩))
    go_ret
    exact ⟨ve_, hs_⟩
  | (with_reducible refine impl_sameOp.Tag.mk 4 ?_)
    go_enter Try.func64, Try.ntmps64
    go_wp2_with (first | ((with_reducible refine gate_dst (N := 2) rfl ?_); refine box_event ?hg (N := 2) ?hd (cs := #[.int .i64 a0_0, .string a0_1, .string a0_2, .slice A0_3 l0_3.length c0_3, .int .i64 a0_4, .int .i64 a0_5, .int .i64 a0_6, .slice A0_7 l0_7.length c0_7]) (t := 37) ?hr ?_; (case hd => rfl); (case hg => rfl); (case hr => first | (go_simp; done) | (go_simp; rfl)); intro gb543 hg w37 hbox hb; have BK543 := Aside0.mk hbox; have GW543 := gu_ hg HB; have GE543 := gu_ hg HB; replace HB := bs_ HB hb; clear hb hbox hg) | ((with_reducible refine gate_dst (N := 3) rfl ?_); refine box_event ?hg (N := 3) ?hd (cs := #[.int .i64 a1_0, .string a1_1, .string a1_2, .slice A1_3 l1_3.length c1_3, .int .i64 a1_4, .int .i64 a1_5, .int .i64 a1_6, .slice A1_7 l1_7.length c1_7]) (t := 37) ?hr ?_; (case hd => rfl); (case hg => rfl); (case hr => first | (go_simp; done) | (go_simp; rfl)); intro gb544 hg w38 hbox hb; have BK544 := Aside0.mk hbox; have GW544 := gu_ hg HB; have GE544 := gu_ hg HB; replace HB := bs_ HB hb; have NB543_544 := nl_ hg BK543; have NB544_543 := ng_ hg BK543; replace BK543 := bb_ BK543 hb; clear hb hbox hg; have hnb39 := NB543_544.out; have hnc39 := NB544_543.out; obtain ⟨_, _, _, _, _, _, _, _⟩ := blk_cells8 BK543.out; obtain ⟨_, _, _, _, _, _, _, _⟩ := blk_frozen8 BK543.out; obtain ⟨_, _, _, _, _, _, _, _⟩ := blk_cells8 BK544.out; obtain ⟨_, _, _, _, _, _, _, _⟩ := blk_frozen8 BK544.out))
    go_ret
    exact ⟨ve_, hs_⟩

/-! ### impl_Op_v0: function 1000000 -/
def impl_Op_v0.l0 : Nat → List (S37) → List (S37) → Int → Int → Option (Bool)
 | 0, _, _, _, _ => none
 | k + 1, x1, x15, x16, x17 => if x17 < x16 then (if 0 ≤ x17 then (if x17 < (x15.length : Int) then (if x17 < (x1.length : Int) then ((impl_sameOp.f k ((rd_T37 x15 x17).f0) ((rd_T37 x15 x17).f1) ((rd_T37 x15 x17).f2) ((rd_T37 x15 x17).f3) ((rd_T37 x15 x17).f4) ((rd_T37 x15 x17).f5) ((rd_T37 x15 x17).f6) ((rd_T37 x15 x17).f7) ((rd_T37 x1 x17).f0) ((rd_T37 x1 x17).f1) ((rd_T37 x1 x17).f2) ((rd_T37 x1 x17).f3) ((rd_T37 x1 x17).f4) ((rd_T37 x1 x17).f5) ((rd_T37 x1 x17).f6) ((rd_T37 x1 x17).f7)).bind fun t551 => (if t551 = true then (impl_Op_v0.l0 k x1 x15 x16 (wrap64 (x17 + 1))) else (some false))) else (none)) else (none)) else (none)) else (some true)
def impl_Op_v0.f (k : Nat) (l0 : List (S37)) (l1 : List (S37))  : Option (Bool) := if (l0.length : Int) = (l1.length : Int) then (impl_Op_v0.l0 k l1 l0 (l0.length : Int) 0) else (some false)
theorem impl_Op_v0.calls (k : Nat) (A0 : Option Addr) (c0 : Nat) (l0 : List (S37)) (A1 : Option Addr) (c1 : Nat) (l1 : List (S37))  (r : Bool) (w : World) (hr0 : Kd.C k37 w A0 l0.length l0) (hc0 : l0.length ≤ c0) (hr1 : Kd.C k37 w A1 l1.length l1) (hc1 : l1.length ≤ c1) (h : impl_Op_v0.f k l0 l1 = some r) :
 Calls Try.prog 63 #[.slice A0 l0.length c0, .slice A1 l1.length c1, .func (.func 64) #[] #[]] w fun e w' => e = .returned (.bool r) ∧ Below w.heap.size w w' := by
 have hu37 := Try.underlying37; have HR0 := Aside0.mk hr0; have HC0 := Aside0.mk hc0; clear hr0 hc0; have HR1 := Aside0.mk hr1; have HC1 := Aside0.mk hc1; clear hr1 hc1; have HB := Aside0.mk (Below.refl w.heap.size w); have H := h; unfold impl_Op_v0.f at H; clear h
 go_enter Try.func63, Try.ntmps63
 by_cases c4 : (l0.length : Int) = (l1.length : Int)
 ·
  rw [if_pos c4] at H; have c4b0 : ((l0.length : Int) == (l1.length : Int)) = true := beq_iff_eq.mpr c4; have c4b1 : ((l0.length : Int) != (l1.length : Int)) = false := bne_eq_false_iff_eq.mpr c4
  have c4b2 : (l0.length == l1.length) = true := by first | simpa using c4 | (simp at c4 ⊢; omega)
  clear c4; have H' := Aside0.mk H; clear H; (try simp only [c4b0, c4b1])
  go_wp2
  go_loopg [17] k (fun kq v17 w' => ∃ (x17_1 : Int), v17 = .int .i64 x17_1 ∧ Aside0 (impl_Op_v0.l0 kq l1 l0 (l0.length : Int) x17_1 = some r) ∧ Aside0 (kq ≤ k) ∧ Aside0 (Below w.heap.size w w'))
  case atStart => exact ⟨(0), vl_, H', ⟨Nat.le_refl _⟩, ⟨hb_⟩⟩
  case round =>
   clear H'; (try clear c1); (try clear c4); (try clear c4b0); (try clear c4b1); (try clear c4b2); obtain ⟨x17_1, rfl, HA, HK1, HB⟩ := hrel
   cases gk with
   | zero => exact absurd HA.out (by simp [impl_Op_v0.l0])
   | succ k1 =>
     have H := HA.out; clear HA; simp only [impl_Op_v0.l0] at H
     by_cases c5 : x17_1 < (l0.length : Int)
     ·
      rw [if_pos c5] at H; have c5b0 : decide (x17_1 < (l0.length : Int)) = true := decide_eq_true c5; clear c5; obtain ⟨c6, H⟩ := ifc_ H; have c6b0 : decide (0 ≤ x17_1) = true := decide_eq_true c6; clear c6; obtain ⟨c7, H⟩ := ifc_ H; have c7b0 : decide (x17_1 < (l0.length : Int)) = true := decide_eq_true c7; clear c7; obtain ⟨c8, H⟩ := ifc_ H; have c8b0 : decide (x17_1 < (l1.length : Int)) = true := decide_eq_true c8; clear c8; obtain ⟨t551, A9, H⟩ := bd_ H; (try dsimp only at H); have p547 : 0 ≤ (x17_1 : Int) := od_; have q547 : x17_1 < (l0.length : Int) := od_; obtain ⟨ad547, A547_3, c547_3, A547_7, c547_7, e547, hx547_0, hx547_1, hx547_2, hx547_3, hx547_4, hx547_5, hx547_6, hx547_7, hl547_3, hi547_3, hl547_7, hi547_7⟩ := at_T37 HR0.out x17_1 p547 q547
      cases e547
      replace hx547_0 := ck_ HB.out hx547_0; replace hx547_1 := ck_ HB.out hx547_1; replace hx547_2 := ck_ HB.out hx547_2; replace hx547_3 := ck_ HB.out hx547_3; replace hx547_4 := ck_ HB.out hx547_4; replace hx547_5 := ck_ HB.out hx547_5; replace hx547_6 := ck_ HB.out hx547_6; replace hx547_7 := ck_ HB.out hx547_7; have HR547_3 := Aside0.mk hi547_3; have HC547_3 := Aside0.mk hl547_3; clear hi547_3 hl547_3; have HR547_7 := Aside0.mk hi547_7; have HC547_7 := Aside0.mk hl547_7; clear hi547_7 hl547_7; replace p547 := eq_true p547; replace q547 := eq_true q547
      go_upto_if 30 with (first | ((with_reducible refine gate_dst (N := 8) rfl ?_); refine box_event ?hg (N := 8) ?hd (cs := #[.int .i64 0, .string (⟨#[]⟩ : ByteArray), .string (⟨#[]⟩ : ByteArray), .slice none 0 0, .int .i64 0, .int .i64 0, .int .i64 0, .slice none 0 0]) (t := 37) ?hr ?_; (case hd => rfl); (case hg => rfl); (case hr => first | (go_simp; done) | (go_simp; rfl)); intro gb548 hg w11 hbox hb; have BK548 := Aside0.mk hbox; have GW548 := ge_ HB hg hs_; have GE548 := ge_ HB hg hs_; replace HB := Aside0.mk (below_step hs_ hb); clear hb hbox hg; obtain ⟨_, _, _, _, _, _, _, _⟩ := blk_cells8 BK548.out; obtain ⟨_, _, _, _, _, _, _, _⟩ := blk_frozen8 BK548.out; have p549 : 0 ≤ (x17_1 : Int) := od_; have q549 : x17_1 < (l1.length : Int) := od_; obtain ⟨ad549, A549_3, c549_3, A549_7, c549_7, e549, hx549_0, hx549_1, hx549_2, hx549_3, hx549_4, hx549_5, hx549_6, hx549_7, hl549_3, hi549_3, hl549_7, hi549_7⟩ := at_T37 HR1.out x17_1 p549 q549; cases e549; have hn549_0 : ad549.block ≠ gb548 := Nat.ne_of_lt (Nat.lt_of_lt_of_le (by have := World.block_lt_of_cell? _ _ hx549_0; first | rwa [add_block] at this | exact this) GW548.out); have hn549_1 : ad549.block ≠ gb548 := Nat.ne_of_lt (Nat.lt_of_lt_of_le (by have := World.block_lt_of_cell? _ _ hx549_0; first | rwa [add_block] at this | exact this) GW548.out); have hn549_2 : ad549.block ≠ gb548 := Nat.ne_of_lt (Nat.lt_of_lt_of_le (by have := World.block_lt_of_cell? _ _ hx549_0; first | rwa [add_block] at this | exact this) GW548.out); have hn549_3 : ad549.block ≠ gb548 := Nat.ne_of_lt (Nat.lt_of_lt_of_le (by have := World.block_lt_of_cell? _ _ hx549_0; first | rwa [add_block] at this | exact this) GW548.out); have hn549_4 : ad549.block ≠ gb548 := Nat.ne_of_lt (Nat.lt_of_lt_of_le (by have := World.block_lt_of_cell? _ _ hx549_0; first | rwa [add_block] at this | exact this) GW548.out); have hn549_5 : ad549.block ≠ gb548 := Nat.ne_of_lt (Nat.lt_of_lt_of_le (by have := World.block_lt_of_cell? _ _ hx549_0; first | rwa [add_block] at this | exact this) GW548.out); have hn549_6 : ad549.block ≠ gb548 := Nat.ne_of_lt (Nat.lt_of_lt_of_le (by have := World.block_lt_of_cell? _ _ hx549_0; first | rwa [add_block] at this | exact this) GW548.out); have hn549_7 : ad549.block ≠ gb548 := Nat.ne_of_lt (Nat.lt_of_lt_of_le (by have := World.block_lt_of_cell? _ _ hx549_0; first | rwa [add_block] at this | exact this) GW548.out); replace hx549_0 := ck_ HB.out hx549_0; replace hx549_1 := ck_ HB.out hx549_1; replace hx549_2 := ck_ HB.out hx549_2; replace hx549_3 := ck_ HB.out hx549_3; replace hx549_4 := ck_ HB.out hx549_4; replace hx549_5 := ck_ HB.out hx549_5; replace hx549_6 := ck_ HB.out hx549_6; replace hx549_7 := ck_ HB.out hx549_7; have HR549_3 := Aside0.mk hi549_3; have HC549_3 := Aside0.mk hl549_3; clear hi549_3 hl549_3; have HR549_7 := Aside0.mk hi549_7; have HC549_7 := Aside0.mk hl549_7; clear hi549_7 hl549_7; replace hx549_0 := (cell_far (p := ⟨gb548, 0, none⟩) (by first | (rw [add_block]; exact hn549_0) | (show (Addr.add _ _).block ≠ _; rw [add_block]; exact hn549_0) | exact hn549_0) (.int .i64 ((rd_T37 l0 x17_1).f0))).trans hx549_0; replace hx549_1 := (cell_far (p := ⟨gb548, 0, none⟩) (by first | (rw [add_block]; exact hn549_0) | (show (Addr.add _ _).block ≠ _; rw [add_block]; exact hn549_0) | exact hn549_0) (.int .i64 ((rd_T37 l0 x17_1).f0))).trans hx549_1; replace hx549_2 := (cell_far (p := ⟨gb548, 0, none⟩) (by first | (rw [add_block]; exact hn549_0) | (show (Addr.add _ _).block ≠ _; rw [add_block]; exact hn549_0) | exact hn549_0) (.int .i64 ((rd_T37 l0 x17_1).f0))).trans hx549_2; replace hx549_3 := (cell_far (p := ⟨gb548, 0, none⟩) (by first | (rw [add_block]; exact hn549_0) | (show (Addr.add _ _).block ≠ _; rw [add_block]; exact hn549_0) | exact hn549_0) (.int .i64 ((rd_T37 l0 x17_1).f0))).trans hx549_3; replace hx549_4 := (cell_far (p := ⟨gb548, 0, none⟩) (by first | (rw [add_block]; exact hn549_0) | (show (Addr.add _ _).block ≠ _; rw [add_block]; exact hn549_0) | exact hn549_0) (.int .i64 ((rd_T37 l0 x17_1).f0))).trans hx549_4; replace hx549_5 := (cell_far (p := ⟨gb548, 0, none⟩) (by first | (rw [add_block]; exact hn549_0) | (show (Addr.add _ _).block ≠ _; rw [add_block]; exact hn549_0) | exact hn549_0) (.int .i64 ((rd_T37 l0 x17_1).f0))).trans hx549_5; replace hx549_6 := (cell_far (p := ⟨gb548, 0, none⟩) (by first | (rw [add_block]; exact hn549_0) | (show (Addr.add _ _).block ≠ _; rw [add_block]; exact hn549_0) | exact hn549_0) (.int .i64 ((rd_T37 l0 x17_1).f0))).trans hx549_6; replace hx549_7 := (cell_far (p := ⟨gb548, 0, none⟩) (by first | (rw [add_block]; exact hn549_0) | (show (Addr.add _ _).block ≠ _; rw [add_block]; exact hn549_0) | exact hn549_0) (.int .i64 ((rd_T37 l0 x17_1).f0))).trans hx549_7; replace hx549_0 := (cell_far (p := ⟨gb548, 1, none⟩) (by first | (rw [add_block]; exact hn549_1) | (show (Addr.add _ _).block ≠ _; rw [add_block]; exact hn549_1) | exact hn549_1) (.string ((rd_T37 l0 x17_1).f1))).trans hx549_0; replace hx549_1 := (cell_far (p := ⟨gb548, 1, none⟩) (by first | (rw [add_block]; exact hn549_1) | (show (Addr.add _ _).block ≠ _; rw [add_block]; exact hn549_1) | exact hn549_1) (.string ((rd_T37 l0 x17_1).f1))).trans hx549_1; replace hx549_2 := (cell_far (p := ⟨gb548, 1, none⟩) (by first | (rw [add_block]; exact hn549_1) | (show (Addr.add _ _).block ≠ _; rw [add_block]; exact hn549_1) | exact hn549_1) (.string ((rd_T37 l0 x17_1).f1))).trans hx549_2; replace hx549_3 := (cell_far (p := ⟨gb548, 1, none⟩) (by first | (rw [add_block]; exact hn549_1) | (show (Addr.add _ _).block ≠ _; rw [add_block]; exact hn549_1) | exact hn549_1) (.string ((rd_T37 l0 x17_1).f1))).trans hx549_3; replace hx549_4 := (cell_far (p := ⟨gb548, 1, none⟩) (by first | (rw [add_block]; exact hn549_1) | (show (Addr.add _ _).block ≠ _; rw [add_block]; exact hn549_1) | exact hn549_1) (.string ((rd_T37 l0 x17_1).f1))).trans hx549_4; replace hx549_5 := (cell_far (p := ⟨gb548, 1, none⟩) (by first | (rw [add_block]; exact hn549_1) | (show (Addr.add _ _).block ≠ _; rw [add_block]; exact hn549_1) | exact hn549_1) (.string ((rd_T37 l0 x17_1).f1))).trans hx549_5; replace hx549_6 := (cell_far (p := ⟨gb548, 1, none⟩) (by first | (rw [add_block]; exact hn549_1) | (show (Addr.add _ _).block ≠ _; rw [add_block]; exact hn549_1) | exact hn549_1) (.string ((rd_T37 l0 x17_1).f1))).trans hx549_6; replace hx549_7 := (cell_far (p := ⟨gb548, 1, none⟩) (by first | (rw [add_block]; exact hn549_1) | (show (Addr.add _ _).block ≠ _; rw [add_block]; exact hn549_1) | exact hn549_1) (.string ((rd_T37 l0 x17_1).f1))).trans hx549_7; replace hx549_0 := (cell_far (p := ⟨gb548, 2, none⟩) (by first | (rw [add_block]; exact hn549_2) | (show (Addr.add _ _).block ≠ _; rw [add_block]; exact hn549_2) | exact hn549_2) (.string ((rd_T37 l0 x17_1).f2))).trans hx549_0; replace hx549_1 := (cell_far (p := ⟨gb548, 2, none⟩) (by first | (rw [add_block]; exact hn549_2) | (show (Addr.add _ _).block ≠ _; rw [add_block]; exact hn549_2) | exact hn549_2) (.string ((rd_T37 l0 x17_1).f2))).trans hx549_1; replace hx549_2 := (cell_far (p := ⟨gb548, 2, none⟩) (by first | (rw [add_block]; exact hn549_2) | (show (Addr.add _ _).block ≠ _; rw [add_block]; exact hn549_2) | exact hn549_2) (.string ((rd_T37 l0 x17_1).f2))).trans hx549_2; replace hx549_3 := (cell_far (p := ⟨gb548, 2, none⟩) (by first | (rw [add_block]; exact hn549_2) | (show (Addr.add _ _).block ≠ _; rw [add_block]; exact hn549_2) | exact hn549_2) (.string ((rd_T37 l0 x17_1).f2))).trans hx549_3; replace hx549_4 := (cell_far (p := ⟨gb548, 2, none⟩) (by first | (rw [add_block]; exact hn549_2) | (show (Addr.add _ _).block ≠ _; rw [add_block]; exact hn549_2) | exact hn549_2) (.string ((rd_T37 l0 x17_1).f2))).trans hx549_4; replace hx549_5 := (cell_far (p := ⟨gb548, 2, none⟩) (by first | (rw [add_block]; exact hn549_2) | (show (Addr.add _ _).block ≠ _; rw [add_block]; exact hn549_2) | exact hn549_2) (.string ((rd_T37 l0 x17_1).f2))).trans hx549_5; replace hx549_6 := (cell_far (p := ⟨gb548, 2, none⟩) (by first | (rw [add_block]; exact hn549_2) | (show (Addr.add _ _).block ≠ _; rw [add_block]; exact hn549_2) | exact hn549_2) (.string ((rd_T37 l0 x17_1).f2))).trans hx549_6; replace hx549_7 := (cell_far (p := ⟨gb548, 2, none⟩) (by first | (rw [add_block]; exact hn549_2) | (show (Addr.add _ _).block ≠ _; rw [add_block]; exact hn549_2) | exact hn549_2) (.string ((rd_T37 l0 x17_1).f2))).trans hx549_7; replace hx549_0 := (cell_far (p := ⟨gb548, 3, none⟩) (by first | (rw [add_block]; exact hn549_3) | (show (Addr.add _ _).block ≠ _; rw [add_block]; exact hn549_3) | exact hn549_3) (.slice A547_3 ((rd_T37 l0 x17_1).f3).length c547_3)).trans hx549_0; replace hx549_1 := (cell_far (p := ⟨gb548, 3, none⟩) (by first | (rw [add_block]; exact hn549_3) | (show (Addr.add _ _).block ≠ _; rw [add_block]; exact hn549_3) | exact hn549_3) (.slice A547_3 ((rd_T37 l0 x17_1).f3).length c547_3)).trans hx549_1; replace hx549_2 := (cell_far (p := ⟨gb548, 3, none⟩) (by first | (rw [add_block]; exact hn549_3) | (show (Addr.add _ _).block ≠ _; rw [add_block]; exact hn549_3) | exact hn549_3) (.slice A547_3 ((rd_T37 l0 x17_1).f3).length c547_3)).trans hx549_2; replace hx549_3 := (cell_far (p := ⟨gb548, 3, none⟩) (by first | (rw [add_block]; exact hn549_3) | (show (Addr.add _ _).block ≠ _; rw [add_block]; exact hn549_3) | exact hn549_3) (.slice A547_3 ((rd_T37 l0 x17_1).f3).length c547_3)).trans hx549_3; replace hx549_4 := (cell_far (p := ⟨gb548, 3, none⟩) (by first | (rw [add_block]; exact hn549_3) | (show (Addr.add _ _).block ≠ _; rw [add_block]; exact hn549_3) | exact hn549_3) (.slice A547_3 ((rd_T37 l0 x17_1).f3).length c547_3)).trans hx549_4; replace hx549_5 := (cell_far (p := ⟨gb548, 3, none⟩) (by first | (rw [add_block]; exact hn549_3) | (show (Addr.add _ _).block ≠ _; rw [add_block]; exact hn549_3) | exact hn549_3) (.slice A547_3 ((rd_T37 l0 x17_1).f3).length c547_3)).trans hx549_5; replace hx549_6 := (cell_far (p := ⟨gb548, 3, none⟩) (by first | (rw [add_block]; exact hn549_3) | (show (Addr.add _ _).block ≠ _; rw [add_block]; exact hn549_3) | exact hn549_3) (.slice A547_3 ((rd_T37 l0 x17_1).f3).length c547_3)).trans hx549_6; replace hx549_7 := (cell_far (p := ⟨gb548, 3, none⟩) (by first | (rw [add_block]; exact hn549_3) | (show (Addr.add _ _).block ≠ _; rw [add_block]; exact hn549_3) | exact hn549_3) (.slice A547_3 ((rd_T37 l0 x17_1).f3).length c547_3)).trans hx549_7; replace hx549_0 := (cell_far (p := ⟨gb548, 4, none⟩) (by first | (rw [add_block]; exact hn549_4) | (show (Addr.add _ _).block ≠ _; rw [add_block]; exact hn549_4) | exact hn549_4) (.int .i64 ((rd_T37 l0 x17_1).f4))).trans hx549_0; replace hx549_1 := (cell_far (p := ⟨gb548, 4, none⟩) (by first | (rw [add_block]; exact hn549_4) | (show (Addr.add _ _).block ≠ _; rw [add_block]; exact hn549_4) | exact hn549_4) (.int .i64 ((rd_T37 l0 x17_1).f4))).trans hx549_1; replace hx549_2 := (cell_far (p := ⟨gb548, 4, none⟩) (by first | (rw [add_block]; exact hn549_4) | (show (Addr.add _ _).block ≠ _; rw [add_block]; exact hn549_4) | exact hn549_4) (.int .i64 ((rd_T37 l0 x17_1).f4))).trans hx549_2; replace hx549_3 := (cell_far (p := ⟨gb548, 4, none⟩) (by first | (rw [add_block]; exact hn549_4) | (show (Addr.add _ _).block ≠ _; rw [add_block]; exact hn549_4) | exact hn549_4) (.int .i64 ((rd_T37 l0 x17_1).f4))).trans hx549_3; replace hx549_4 := (cell_far (p := ⟨gb548, 4, none⟩) (by first | (rw [add_block]; exact hn549_4) | (show (Addr.add _ _).block ≠ _; rw [add_block]; exact hn549_4) | exact hn549_4) (.int .i64 ((rd_T37 l0 x17_1).f4))).trans hx549_4; replace hx549_5 := (cell_far (p := ⟨gb548, 4, none⟩) (by first | (rw [add_block]; exact hn549_4) | (show (Addr.add _ _).block ≠ _; rw [add_block]; exact hn549_4) | exact hn549_4) (.int .i64 ((rd_T37 l0 x17_1).f4))).trans hx549_5; replace hx549_6 := (cell_far (p := ⟨gb548, 4, none⟩) (by first | (rw [add_block]; exact hn549_4) | (show (Addr.add _ _).block ≠ _; rw [add_block]; exact hn549_4) | exact hn549_4) (.int .i64 ((rd_T37 l0 x17_1).f4))).trans hx549_6; replace hx549_7 := (cell_far (p := ⟨gb548, 4, none⟩) (by first | (rw [add_block]; exact hn549_4) | (show (Addr.add _ _).block ≠ _; rw [add_block]; exact hn549_4) | exact hn549_4) (.int .i64 ((rd_T37 l0 x17_1).f4))).trans hx549_7; replace hx549_0 := (cell_far (p := ⟨gb548, 5, none⟩) (by first | (rw [add_block]; exact hn549_5) | (show (Addr.add _ _).block ≠ _; rw [add_block]; exact hn549_5) | exact hn549_5) (.int .i64 ((rd_T37 l0 x17_1).f5))).trans hx549_0; replace hx549_1 := (cell_far (p := ⟨gb548, 5, none⟩) (by first | (rw [add_block]; exact hn549_5) | (show (Addr.add _ _).block ≠ _; rw [add_block]; exact hn549_5) | exact hn549_5) (.int .i64 ((rd_T37 l0 x17_1).f5))).trans hx549_1; replace hx549_2 := (cell_far (p := ⟨gb548, 5, none⟩) (by first | (rw [add_block]; exact hn549_5) | (show (Addr.add _ _).block ≠ _; rw [add_block]; exact hn549_5) | exact hn549_5) (.int .i64 ((rd_T37 l0 x17_1).f5))).trans hx549_2; replace hx549_3 := (cell_far (p := ⟨gb548, 5, none⟩) (by first | (rw [add_block]; exact hn549_5) | (show (Addr.add _ _).block ≠ _; rw [add_block]; exact hn549_5) | exact hn549_5) (.int .i64 ((rd_T37 l0 x17_1).f5))).trans hx549_3; replace hx549_4 := (cell_far (p := ⟨gb548, 5, none⟩) (by first | (rw [add_block]; exact hn549_5) | (show (Addr.add _ _).block ≠ _; rw [add_block]; exact hn549_5) | exact hn549_5) (.int .i64 ((rd_T37 l0 x17_1).f5))).trans hx549_4; replace hx549_5 := (cell_far (p := ⟨gb548, 5, none⟩) (by first | (rw [add_block]; exact hn549_5) | (show (Addr.add _ _).block ≠ _; rw [add_block]; exact hn549_5) | exact hn549_5) (.int .i64 ((rd_T37 l0 x17_1).f5))).trans hx549_5; replace hx549_6 := (cell_far (p := ⟨gb548, 5, none⟩) (by first | (rw [add_block]; exact hn549_5) | (show (Addr.add _ _).block ≠ _; rw [add_block]; exact hn549_5) | exact hn549_5) (.int .i64 ((rd_T37 l0 x17_1).f5))).trans hx549_6; replace hx549_7 := (cell_far (p := ⟨gb548, 5, none⟩) (by first | (rw [add_block]; exact hn549_5) | (show (Addr.add _ _).block ≠ _; rw [add_block]; exact hn549_5) | exact hn549_5) (.int .i64 ((rd_T37 l0 x17_1).f5))).trans hx549_7; replace hx549_0 := (cell_far (p := ⟨gb548, 6, none⟩) (by first | (rw [add_block]; exact hn549_6) | (show (Addr.add _ _).block ≠ _; rw [add_block]; exact hn549_6) | exact hn549_6) (.int .i64 ((rd_T37 l0 x17_1).f6))).trans hx549_0; replace hx549_1 := (cell_far (p := ⟨gb548, 6, none⟩) (by first | (rw [add_block]; exact hn549_6) | (show (Addr.add _ _).block ≠ _; rw [add_block]; exact hn549_6) | exact hn549_6) (.int .i64 ((rd_T37 l0 x17_1).f6))).trans hx549_1; replace hx549_2 := (cell_far (p := ⟨gb548, 6, none⟩) (by first | (rw [add_block]; exact hn549_6) | (show (Addr.add _ _).block ≠ _; rw [add_block]; exact hn549_6) | exact hn549_6) (.int .i64 ((rd_T37 l0 x17_1).f6))).trans hx549_2; replace hx549_3 := (cell_far (p := ⟨gb548, 6, none⟩) (by first | (rw [add_block]; exact hn549_6) | (show (Addr.add _ _).block ≠ _; rw [add_block]; exact hn549_6) | exact hn549_6) (.int .i64 ((rd_T37 l0 x17_1).f6))).trans hx549_3; replace hx549_4 := (cell_far (p := ⟨gb548, 6, none⟩) (by first | (rw [add_block]; exact hn549_6) | (show (Addr.add _ _).block ≠ _; rw [add_block]; exact hn549_6) | exact hn549_6) (.int .i64 ((rd_T37 l0 x17_1).f6))).trans hx549_4; replace hx549_5 := (cell_far (p := ⟨gb548, 6, none⟩) (by first | (rw [add_block]; exact hn549_6) | (show (Addr.add _ _).block ≠ _; rw [add_block]; exact hn549_6) | exact hn549_6) (.int .i64 ((rd_T37 l0 x17_1).f6))).trans hx549_5; replace hx549_6 := (cell_far (p := ⟨gb548, 6, none⟩) (by first | (rw [add_block]; exact hn549_6) | (show (Addr.add _ _).block ≠ _; rw [add_block]; exact hn549_6) | exact hn549_6) (.int .i64 ((rd_T37 l0 x17_1).f6))).trans hx549_6; replace hx549_7 := (cell_far (p := ⟨gb548, 6, none⟩) (by first | (rw [add_block]; exact hn549_6) | (show (Addr.add _ _).block ≠ _; rw [add_block]; exact hn549_6) | exact hn549_6) (.int .i64 ((rd_T37 l0 x17_1).f6))).trans hx549_7; replace hx549_0 := (cell_far (p := ⟨gb548, 7, none⟩) (by first | (rw [add_block]; exact hn549_7) | (show (Addr.add _ _).block ≠ _; rw [add_block]; exact hn549_7) | exact hn549_7) (.slice A547_7 ((rd_T37 l0 x17_1).f7).length c547_7)).trans hx549_0; replace hx549_1 := (cell_far (p := ⟨gb548, 7, none⟩) (by first | (rw [add_block]; exact hn549_7) | (show (Addr.add _ _).block ≠ _; rw [add_block]; exact hn549_7) | exact hn549_7) (.slice A547_7 ((rd_T37 l0 x17_1).f7).length c547_7)).trans hx549_1; replace hx549_2 := (cell_far (p := ⟨gb548, 7, none⟩) (by first | (rw [add_block]; exact hn549_7) | (show (Addr.add _ _).block ≠ _; rw [add_block]; exact hn549_7) | exact hn549_7) (.slice A547_7 ((rd_T37 l0 x17_1).f7).length c547_7)).trans hx549_2; replace hx549_3 := (cell_far (p := ⟨gb548, 7, none⟩) (by first | (rw [add_block]; exact hn549_7) | (show (Addr.add _ _).block ≠ _; rw [add_block]; exact hn549_7) | exact hn549_7) (.slice A547_7 ((rd_T37 l0 x17_1).f7).length c547_7)).trans hx549_3; replace hx549_4 := (cell_far (p := ⟨gb548, 7, none⟩) (by first | (rw [add_block]; exact hn549_7) | (show (Addr.add _ _).block ≠ _; rw [add_block]; exact hn549_7) | exact hn549_7) (.slice A547_7 ((rd_T37 l0 x17_1).f7).length c547_7)).trans hx549_4; replace hx549_5 := (cell_far (p := ⟨gb548, 7, none⟩) (by first | (rw [add_block]; exact hn549_7) | (show (Addr.add _ _).block ≠ _; rw [add_block]; exact hn549_7) | exact hn549_7) (.slice A547_7 ((rd_T37 l0 x17_1).f7).length c547_7)).trans hx549_5; replace hx549_6 := (cell_far (p := ⟨gb548, 7, none⟩) (by first | (rw [add_block]; exact hn549_7) | (show (Addr.add _ _).block ≠ _; rw [add_block]; exact hn549_7) | exact hn549_7) (.slice A547_7 ((rd_T37 l0 x17_1).f7).length c547_7)).trans hx549_6; replace hx549_7 := (cell_far (p := ⟨gb548, 7, none⟩) (by first | (rw [add_block]; exact hn549_7) | (show (Addr.add _ _).block ≠ _; rw [add_block]; exact hn549_7) | exact hn549_7) (.slice A547_7 ((rd_T37 l0 x17_1).f7).length c547_7)).trans hx549_7; clear hn549_0 hn549_1 hn549_2 hn549_3 hn549_4 hn549_5 hn549_6 hn549_7; replace p549 := eq_true p549; replace q549 := eq_true q549) | ((with_reducible refine gate_dst (N := 9) rfl ?_); refine box_event ?hg (N := 9) ?hd (cs := #[.int .i64 0, .string (⟨#[]⟩ : ByteArray), .string (⟨#[]⟩ : ByteArray), .slice none 0 0, .int .i64 0, .int .i64 0, .int .i64 0, .slice none 0 0]) (t := 37) ?hr ?_; (case hd => rfl); (case hg => rfl); (case hr => first | (go_simp; done) | (go_simp; rfl)); intro gb550 hg w13 hbox hb; have BK550 := Aside0.mk hbox; have GW550 := ge_ HB hg hs_; have GE550 := ge_ HB hg hs_; replace HB := bt_ HB hb hs_; have NB548_550 := Aside0.mk ((by rw [hg]; exact Nat.ne_of_lt (blk_lt (g := gb548) (o := .cells #[.int .i64 ((rd_T37 l0 x17_1).f0), .string ((rd_T37 l0 x17_1).f1), .string ((rd_T37 l0 x17_1).f2), .slice A547_3 ((rd_T37 l0 x17_1).f3).length c547_3, .int .i64 ((rd_T37 l0 x17_1).f4), .int .i64 ((rd_T37 l0 x17_1).f5), .int .i64 ((rd_T37 l0 x17_1).f6), .slice A547_7 ((rd_T37 l0 x17_1).f7).length c547_7] 37 (0, 0)) (bq_)) : gb548 ≠ gb550)); have NB550_548 := Aside0.mk ((by rw [hg]; exact Nat.ne_of_gt (blk_lt (g := gb548) (o := .cells #[.int .i64 ((rd_T37 l0 x17_1).f0), .string ((rd_T37 l0 x17_1).f1), .string ((rd_T37 l0 x17_1).f2), .slice A547_3 ((rd_T37 l0 x17_1).f3).length c547_3, .int .i64 ((rd_T37 l0 x17_1).f4), .int .i64 ((rd_T37 l0 x17_1).f5), .int .i64 ((rd_T37 l0 x17_1).f6), .slice A547_7 ((rd_T37 l0 x17_1).f7).length c547_7] 37 (0, 0)) (bq_)) : gb550 ≠ gb548)); replace BK548 := Aside0.mk (blk_below (g := gb548) (o := .cells #[.int .i64 ((rd_T37 l0 x17_1).f0), .string ((rd_T37 l0 x17_1).f1), .string ((rd_T37 l0 x17_1).f2), .slice A547_3 ((rd_T37 l0 x17_1).f3).length c547_3, .int .i64 ((rd_T37 l0 x17_1).f4), .int .i64 ((rd_T37 l0 x17_1).f5), .int .i64 ((rd_T37 l0 x17_1).f6), .slice A547_7 ((rd_T37 l0 x17_1).f7).length c547_7] 37 (0, 0)) (bq_) hb); clear hb hbox hg; have hnb14 := NB550_548.out; have hnc14 := NB548_550.out; obtain ⟨hcz15_0, hcz15_1, hcz15_2, hcz15_3, hcz15_4, hcz15_5, hcz15_6, hcz15_7⟩ := blk_cells8 BK550.out; obtain ⟨hfz15_0, hfz15_1, hfz15_2, hfz15_3, hfz15_4, hfz15_5, hfz15_6, hfz15_7⟩ := blk_frozen8 BK550.out; obtain ⟨hcz16_0, hcz16_1, hcz16_2, hcz16_3, hcz16_4, hcz16_5, hcz16_6, hcz16_7⟩ := blk_cells8 BK548.out; obtain ⟨hfz16_0, hfz16_1, hfz16_2, hfz16_3, hfz16_4, hfz16_5, hfz16_6, hfz16_7⟩ := blk_frozen8 BK548.out) | (go_at_call 64; (with_reducible refine (impl_sameOp.calls k1 ((rd_T37 l0 x17_1).f0) ((rd_T37 l0 x17_1).f1) ((rd_T37 l0 x17_1).f2) _ _ ((rd_T37 l0 x17_1).f3) ((rd_T37 l0 x17_1).f4) ((rd_T37 l0 x17_1).f5) ((rd_T37 l0 x17_1).f6) _ _ ((rd_T37 l0 x17_1).f7) ((rd_T37 l1 x17_1).f0) ((rd_T37 l1 x17_1).f1) ((rd_T37 l1 x17_1).f2) _ _ ((rd_T37 l1 x17_1).f3) ((rd_T37 l1 x17_1).f4) ((rd_T37 l1 x17_1).f5) ((rd_T37 l1 x17_1).f6) _ _ ((rd_T37 l1 x17_1).f7) t551 _ ?_ ?_ ?_ ?_ ?_ ?_ ?_ ?_ A9.out).mono ?_); exact Kd.C_below HR547_3.out (hs_); exact HC547_3.out; exact Kd.C_below HR547_7.out (hs_); exact HC547_7.out; exact Kd.C_below HR549_3.out (hs_); exact HC549_3.out; exact Kd.C_below HR549_7.out (hs_); exact HC549_7.out; rintro e w17 ⟨rfl, hb⟩; replace BK548 := Aside0.mk (blk_below (g := gb548) (o := .cells #[.int .i64 ((rd_T37 l0 x17_1).f0), .string ((rd_T37 l0 x17_1).f1), .string ((rd_T37 l0 x17_1).f2), .slice A547_3 ((rd_T37 l0 x17_1).f3).length c547_3, .int .i64 ((rd_T37 l0 x17_1).f4), .int .i64 ((rd_T37 l0 x17_1).f5), .int .i64 ((rd_T37 l0 x17_1).f6), .slice A547_7 ((rd_T37 l0 x17_1).f7).length c547_7] 37 (0, 0)) (blf_) hb); replace BK550 := Aside0.mk (blk_below (g := gb550) (o := .cells #[.int .i64 ((rd_T37 l1 x17_1).f0), .string ((rd_T37 l1 x17_1).f1), .string ((rd_T37 l1 x17_1).f2), .slice A549_3 ((rd_T37 l1 x17_1).f3).length c549_3, .int .i64 ((rd_T37 l1 x17_1).f4), .int .i64 ((rd_T37 l1 x17_1).f5), .int .i64 ((rd_T37 l1 x17_1).f6), .slice A549_7 ((rd_T37 l1 x17_1).f7).length c549_7] 37 (0, 0)) (bq_) hb); replace HB := bt_ HB hb hs_; (try clear hb)))
      by_cases c10 : t551 = true
      ·
       subst c10; (try rw [if_pos rfl] at H); have H' := Aside0.mk H; clear H
       (try simp only [Bool.not_true, Bool.not_false])
       go_wp2
       go_roundg k1
       case measure => have := HK1.out; omega
       case rel => exact ⟨(wrap64 (x17_1 + 1)), vl_, H', ⟨by have := HK1.out; omega⟩, ⟨hs_⟩⟩
      ·
       replace c10 := Bool.eq_false_iff.mpr c10; subst c10; (try rw [if_neg (show ¬ (false = true) by decide)] at H); obtain rfl := Option.some.inj H
       (try simp only [Bool.not_true, Bool.not_false])
       go_wp2
       go_ret
       exact ⟨ve_, hs_⟩
     ·
      rw [if_neg c5] at H; have c5b0 : decide (x17_1 < (l0.length : Int)) = false := decide_eq_false c5; clear c5; obtain rfl := Option.some.inj H
      (try simp only [Bool.not_true, Bool.not_false])
      go_wp2
      go_ret
      exact ⟨ve_, hb_⟩
 ·
  rw [if_neg c4] at H; have c4b0 : ((l0.length : Int) == (l1.length : Int)) = false := beq_eq_false_iff_ne.mpr c4; have c4b1 : ((l0.length : Int) != (l1.length : Int)) = true := bne_iff_ne.mpr c4
  have c4b2 : (l0.length == l1.length) = false := by first | simpa using c4 | (simp at c4 ⊢; omega)
  obtain rfl := Option.some.inj H; (try simp only [c4b0, c4b1])
  (try simp only [Bool.not_true, Bool.not_false])
  go_wp2
  go_ret
  exact ⟨ve_, hb_⟩

/-! ### impl_SameOps: function 37 -/
def impl_SameOps.f (k : Nat) (l0 : List (S37)) (l1 : List (S37)) : Option (Bool) := (impl_Op_v0.f k l0 l1).bind fun t552 => (some t552)
theorem impl_SameOps.calls (k : Nat) (A0 : Option Addr) (c0 : Nat) (l0 : List (S37)) (A1 : Option Addr) (c1 : Nat) (l1 : List (S37)) (r : Bool) (w : World) (hr0 : Kd.C k37 w A0 l0.length l0) (hc0 : l0.length ≤ c0) (hr1 : Kd.C k37 w A1 l1.length l1) (hc1 : l1.length ≤ c1) (h : impl_SameOps.f k l0 l1 = some r) :
 Calls Try.prog 37 #[.slice A0 l0.length c0, .slice A1 l1.length c1] w fun e w' => e = .returned (.bool r) ∧ Below w.heap.size w w' := by
 have HR0 := Aside0.mk hr0; have HC0 := Aside0.mk hc0; clear hr0 hc0; have HR1 := Aside0.mk hr1; have HC1 := Aside0.mk hc1; clear hr1 hc1; have HB := Aside0.mk (Below.refl w.heap.size w); have H := h; unfold impl_SameOps.f at H; clear h; replace H := Option.bind_eq_some_iff.mp H; obtain ⟨t552, A30, H⟩ := H; replace H : (some t552) = some r := H; have A3 := Aside0.mk A30; clear A30; obtain rfl := Option.some.inj H
 go_enter Try.func37, Try.ntmps37
 go_wp2_with (first | (go_at_call 63; (with_reducible refine (impl_Op_v0.calls k _ _ l0 _ _ l1 t552 _ ?_ ?_ ?_ ?_ A3.out).mono ?_); exact C_up HR0.out; exact HC0.out; exact C_up HR1.out; exact HC1.out; rintro e w4 ⟨rfl, hb⟩; replace HB := bs_ HB hb; (try clear hb)))
 go_ret
 exact ⟨ve_, hb_⟩

end Go.Proofs.Ytehdbobpbcjmeaa.PFnJournals

/- Functions of the program as Lean functions, each with the proof that its call comes to what that function says (texts written by a program of this session). Conditions: those that stand in each theorem. -/
import Derived.Test.YtehdbobpbcjmeaaPFnExactPackOpsx0
import Derived.Test.YtehdbobpbcjmeaaPFnExactPackOpsx1
import Derived.Test.YtehdbobpbcjmeaaPFnExactPackOpsx6
import Derived.Test.YtehdbobpbcjmeaaPFnExactPackOpsx10
import Derived.Test.YtehdbobpbcjmeaaPFnExactPackOpsx11
namespace Go.Proofs.Ytehdbobpbcjmeaa.PFnExactPackOps
open Go.RowKit Go.Proofs.YtehdbobpbcjmeaaW.PrintWords Go.Proofs.YtehdbobpbcjmeaaW.PrintLast Go.Proofs.YtehdbobpbcjmeaaW.PrintMore
attribute [local go_sem] max2_int min2_int max_two min_two max_three min_three max_four min_four   -- for this text's walks alone
set_option linter.unusedVariables false
set_option linter.unusedSimpArgs false

/-! ### laws_FnExactPackOps: function 3 -/
def laws_FnExactPackOps.j0 : Nat → List (S57) → Bool → Int → List Int → Int → List Int → Option (Bool)
 | 0, _, _, _, _, _, _ => none
 | k + 1, x0, x42, x404000, x404001, x412000, x412001 => if x42 = true then (none) else ((laws_markBytesResult.f k x412000 x412001 1).bind fun bt420 => ((laws_heldBytesResult.f k x412000 bt420.2 1).bind fun t422 => (if t422 < 0 then (none) else (if t422 = bt420.1 then ((laws_toOpS.f k x0).bind fun t423 => ((impl_PackOps.f k t423).bind fun bt426 => ((laws_eqBytesResult.f k bt426.1 bt426.2 x404000 x404001).bind fun t431 => (if t431 = true then ((laws_heldBytesResult.f k x412000 bt420.2 1).bind fun t432 => (if t432 < 0 then (none) else (if t432 = bt420.1 then (some true) else (none)))) else (none))))) else (none)))))
def laws_FnExactPackOps.f (k : Nat) (l0 : List (S57)) : Option (Bool) := (laws_szOpS.f k l0 1048576).bind fun t395 => (if t395 < 0 then (some true) else ((laws_toOpS.f k l0).bind fun t396 => ((spec_PackOps.f k t396).bind fun bt399 => ((laws_toOpS.f k l0).bind fun t404 => ((impl_PackOps.f k t404).bind fun bt407 => ((laws_eqBytesResult.f k bt407.1 bt407.2 bt399.1 bt399.2).bind fun t412 => (if t412 = true then ((laws_toOpS.f k l0).bind fun t413 => ((laws_eqOpS.f k t404 t413).bind fun t416 => (if t416 = true then ((laws_markOpS.f k t404 1).bind fun bt417 => (if bt417.1 < 0 then (laws_FnExactPackOps.j0 k l0 true bt399.1 bt399.2 bt407.1 bt407.2) else ((laws_eqBytesResult.f k bt407.1 bt407.2 bt399.1 bt399.2).bind fun t419 => (laws_FnExactPackOps.j0 k l0 (!t419) bt399.1 bt399.2 bt407.1 bt407.2)))) else (none)))) else (none))))))))
theorem laws_FnExactPackOps.mono_l : ∀ k, (∀ y0 y1 y2 y3 y4 y5, LeO (laws_FnExactPackOps.j0 k y0 y1 y2 y3 y4 y5) (laws_FnExactPackOps.j0 (k + 1) y0 y1 y2 y3 y4 y5))
 | 0 => fun _ _ _ _ _ _ r h => by simp [laws_FnExactPackOps.j0] at h
 | k + 1 => by
   have ih0 := laws_FnExactPackOps.mono_l k
   · intro y0 y1 y2 y3 y4 y5
     unfold laws_FnExactPackOps.j0
     repeat' first
     | (with_reducible exact ih0 _ _ _ _ _ _)
     | (with_reducible exact impl_PackOps.mono _ _)
     | (with_reducible exact laws_eqBytesResult.mono _ _ _ _ _)
     | (with_reducible exact laws_eqOpS.mono _ _ _)
     | (with_reducible exact laws_heldBytesResult.mono _ _ _ _)
     | (with_reducible exact laws_markBytesResult.mono _ _ _ _)
     | (with_reducible exact laws_markOpS.mono _ _ _)
     | (with_reducible exact laws_szOpS.mono _ _ _)
     | (with_reducible exact laws_toOpS.mono _ _)
     | (with_reducible exact spec_PackOps.mono _ _)
     | (with_reducible exact LeO.refl _)
     | (with_reducible exact LeO.none _)
     | (with_reducible refine LeO.ite ?_ ?_)
     | (with_reducible refine LeO.bind ?_ (fun _ => ?_))
     | exact ih0 _ _ _ _ _ _
     | exact impl_PackOps.mono _ _
     | exact laws_eqBytesResult.mono _ _ _ _ _
     | exact laws_eqOpS.mono _ _ _
     | exact laws_heldBytesResult.mono _ _ _ _
     | exact laws_markBytesResult.mono _ _ _ _
     | exact laws_markOpS.mono _ _ _
     | exact laws_szOpS.mono _ _ _
     | exact laws_toOpS.mono _ _
     | exact spec_PackOps.mono _ _
     | exact LeO.none _
     | refine LeO.ite ?_ ?_
     | refine LeO.bind ?_ (fun _ => ?_)
theorem laws_FnExactPackOps.mono : ∀ a0 k, LeO (laws_FnExactPackOps.f k a0) (laws_FnExactPackOps.f (k + 1) a0) := by
 intro a0 k
 have ih0 := laws_FnExactPackOps.mono_l k
 unfold laws_FnExactPackOps.f
 repeat' first
  | (with_reducible exact ih0 _ _ _ _ _ _)
  | (with_reducible exact impl_PackOps.mono _ _)
  | (with_reducible exact laws_eqBytesResult.mono _ _ _ _ _)
  | (with_reducible exact laws_eqOpS.mono _ _ _)
  | (with_reducible exact laws_heldBytesResult.mono _ _ _ _)
  | (with_reducible exact laws_markBytesResult.mono _ _ _ _)
  | (with_reducible exact laws_markOpS.mono _ _ _)
  | (with_reducible exact laws_szOpS.mono _ _ _)
  | (with_reducible exact laws_toOpS.mono _ _)
  | (with_reducible exact spec_PackOps.mono _ _)
  | (with_reducible exact LeO.refl _)
  | (with_reducible exact LeO.none _)
  | (with_reducible refine LeO.ite ?_ ?_)
  | (with_reducible refine LeO.bind ?_ (fun _ => ?_))
  | exact ih0 _ _ _ _ _ _
  | exact impl_PackOps.mono _ _
  | exact laws_eqBytesResult.mono _ _ _ _ _
  | exact laws_eqOpS.mono _ _ _
  | exact laws_heldBytesResult.mono _ _ _ _
  | exact laws_markBytesResult.mono _ _ _ _
  | exact laws_markOpS.mono _ _ _
  | exact laws_szOpS.mono _ _ _
  | exact laws_toOpS.mono _ _
  | exact spec_PackOps.mono _ _
  | exact LeO.none _
  | refine LeO.ite ?_ ?_
  | refine LeO.bind ?_ (fun _ => ?_)
set_option maxHeartbeats 8000000 in
set_option maxRecDepth 100000 in
theorem laws_FnExactPackOps.calls (k : Nat) (A0 : Option Addr) (c0 : Nat) (l0 : List (S57)) (r : Bool) (w : World) (hr0 : Kd.C k57 w A0 l0.length l0) (hc0 : l0.length ≤ c0) (h : laws_FnExactPackOps.f k l0 = some r) :
 Calls Try.prog 3 #[.slice A0 l0.length c0] w fun e w' => e = .returned (.bool r) ∧ Below w.heap.size w w' := by
 have hu26 := Try.underlying26
 have HR0 := Aside0.mk hr0
 have HC0 := Aside0.mk hc0
 clear hr0 hc0
 have HB := Aside0.mk (Below.refl w.heap.size w)
 have H : ((laws_szOpS.f k l0 1048576).bind fun t395 => (if t395 < 0 then (some true) else ((laws_toOpS.f k l0).bind fun t396 => ((spec_PackOps.f k t396).bind fun bt399 => ((laws_toOpS.f k l0).bind fun t404 => ((impl_PackOps.f k t404).bind fun bt407 => ((laws_eqBytesResult.f k bt407.1 bt407.2 bt399.1 bt399.2).bind fun t412 => (if t412 = true then ((laws_toOpS.f k l0).bind fun t413 => ((laws_eqOpS.f k t404 t413).bind fun t416 => (if t416 = true then ((laws_markOpS.f k t404 1).bind fun bt417 => (if bt417.1 < 0 then (laws_FnExactPackOps.j0 k l0 true bt399.1 bt399.2 bt407.1 bt407.2) else ((laws_eqBytesResult.f k bt407.1 bt407.2 bt399.1 bt399.2).bind fun t419 => (laws_FnExactPackOps.j0 k l0 (!t419) bt399.1 bt399.2 bt407.1 bt407.2)))) else (none)))) else (none))))))))) = some r := h
 clear h
 replace H := Option.bind_eq_some_iff.mp H
 obtain ⟨t395, A20, H⟩ := H
 (try dsimp only at H)
 have A2 := Aside0.mk A20
 clear A20
 by_cases c3 : t395 < 0
 · rw [if_pos c3] at H
   have c3b0 : decide (t395 < 0) = true := decide_eq_true c3
   clear c3
   obtain rfl := Option.some.inj H
   go_enter Try.func3, Try.ntmps3
   go_wp2_with (first | ((with_reducible refine gate_callee (f := 8) rfl ?_); refine goesL_ (some 13) rfl rfl Try.func8 (by kernel_rfl) rfl #[.slice A0 l0.length c0, .int .i64 1048576] rfl (by (try simp only [List.map_toArray, List.map_cons, List.map_nil]); first | done | rfl | (simp only [List.length_drop, List.length_take]; rfl)) ?_; (with_reducible refine (laws_szOpS.calls k _ _ l0 1048576 t395 _ ?side1 ?side2 A2.out).mono ?_); (case side1 => exact C_up HR0.out); (case side2 => exact HC0.out); rintro e w4 ⟨rfl, hb⟩; refine ⟨_, rfl, ?_⟩; have n0_ := Aside0.mk (below_step (HB_up HB.out) hb); clear HB; have HB := n0_; clear n0_; (try clear hb); (try clear hb2); (try clear hk); (try clear hi)))
   go_ret
   exact ⟨by first | rfl | (simp [errW_none, errW_some] <;> rfl) | (simp [*, errW_none, errW_some] <;> rfl), by repeat (first | (with_reducible first | exact HB.out | apply below_alloc | apply pw_below_drewN | apply below_drew1) | exact HB.out)⟩
 · rw [if_neg c3] at H
   have c3b0 : decide (t395 < 0) = false := decide_eq_false c3
   clear c3
   replace H := Option.bind_eq_some_iff.mp H
   obtain ⟨t396, A50, H⟩ := H
   (try dsimp only at H)
   have A5 := Aside0.mk A50
   clear A50
   replace H := Option.bind_eq_some_iff.mp H
   obtain ⟨⟨t399, t400⟩, A60, H⟩ := H
   (try dsimp only at H)
   have A6 := Aside0.mk A60
   clear A60
   replace H := Option.bind_eq_some_iff.mp H
   obtain ⟨t404, A70, H⟩ := H
   (try dsimp only at H)
   have A7 := Aside0.mk A70
   clear A70
   replace H := Option.bind_eq_some_iff.mp H
   obtain ⟨⟨t407, t408⟩, A80, H⟩ := H
   (try dsimp only at H)
   have A8 := Aside0.mk A80
   clear A80
   replace H := Option.bind_eq_some_iff.mp H
   obtain ⟨t412, A90, H⟩ := H
   (try dsimp only at H)
   have A9 := Aside0.mk A90
   clear A90
   by_cases c10 : t412 = true
   · subst c10
     (try rw [if_pos rfl] at H)
     replace H := Option.bind_eq_some_iff.mp H
     obtain ⟨t413, A110, H⟩ := H
     (try dsimp only at H)
     have A11 := Aside0.mk A110
     clear A110
     replace H := Option.bind_eq_some_iff.mp H
     obtain ⟨t416, A120, H⟩ := H
     (try dsimp only at H)
     have A12 := Aside0.mk A120
     clear A120
     by_cases c13 : t416 = true
     · subst c13
       (try rw [if_pos rfl] at H)
       replace H := Option.bind_eq_some_iff.mp H
       obtain ⟨⟨t417, t418⟩, A140, H⟩ := H
       (try dsimp only at H)
       have A14 := Aside0.mk A140
       clear A140
       have HC15 := Aside0.mk H
       clear H
       go_enter Try.func3, Try.ntmps3
       go_upto_region 14 with (first | ((with_reducible refine gate_callee (f := 8) rfl ?_); refine goesL_ (some 13) rfl rfl Try.func8 (by kernel_rfl) rfl #[.slice A0 l0.length c0, .int .i64 1048576] rfl (by (try simp only [List.map_toArray, List.map_cons, List.map_nil]); first | done | rfl | (simp only [List.length_drop, List.length_take]; rfl)) ?_; (with_reducible refine (laws_szOpS.calls k _ _ l0 1048576 t395 _ ?side1 ?side2 A2.out).mono ?_); (case side1 => exact C_up HR0.out); (case side2 => exact HC0.out); rintro e w16 ⟨rfl, hb⟩; refine ⟨_, rfl, ?_⟩; have n0_ := Aside0.mk (below_step (HB_up HB.out) hb); clear HB; have HB := n0_; clear n0_; (try clear hb); (try clear hb2); (try clear hk); (try clear hi)) | ((with_reducible refine gate_callee (f := 10) rfl ?_); refine goesL_ (some 17) rfl rfl Try.func10 (by kernel_rfl) rfl #[.slice A0 l0.length c0] rfl (by (try simp only [List.map_toArray, List.map_cons, List.map_nil]); first | done | rfl | (simp only [List.length_drop, List.length_take]; rfl)) ?_; (with_reducible refine (laws_toOpS.calls k _ _ l0 t396 _ ?side1 ?side2 A5.out).mono ?_); (case side1 => exact C_up (Kd.C_below HR0.out HB.out)); (case side2 => exact HC0.out); rintro e w17 ⟨v397, rfl, ho0, hb⟩; refine ⟨_, rfl, ?_⟩; have n0_ := Aside0.mk (Kd.S_lower ho0 (below_size (HB_up HB.out))); have n1_ := Aside0.mk (below_step (HB_up HB.out) hb); clear HB; have HO398 := n0_; have HB := n1_; clear n0_ n1_; (try clear hb); (try clear hb2); (try clear hk); (try clear hi); (try clear ho0); obtain ⟨Ao18, co18, eo18⟩ := Kd.S_slice HO398.out; subst eo18) | ((with_reducible refine gate_callee (f := 9) rfl ?_); refine goesL_ (some 18) rfl rfl Try.func9 (by kernel_rfl) rfl #[.slice Ao18 t396.length co18] rfl (by (try simp only [List.map_toArray, List.map_cons, List.map_nil]); first | done | rfl | (simp only [List.length_drop, List.length_take]; rfl)) ?_; (with_reducible refine (spec_PackOps.calls k _ _ t396 t399 t400 _ ?side1 ?side2 A6.out).mono ?_); (case side1 => exact C_up (Kd.S_reads' HO398.out).2.2); (case side2 => exact (Kd.S_reads' HO398.out).2.1); rintro e w19 ⟨v401, rfl, ho0, hb⟩; refine ⟨_, rfl, ?_⟩; have n0_ := Aside0.mk (Kd.S_elder' (S_up HO398.out) (Kd.R_base ho0) hb); have n1_ := Aside0.mk (Kd.R_lower ho0 (below_size (HB_up HB.out))); have n2_ := Aside0.mk (below_step (HB_up HB.out) hb); clear HO398; clear HB; have HO398 := n0_; have HO402 := n1_; have HB := n2_; clear n0_ n1_ n2_; (try clear hb); (try clear hb2); (try clear hk); (try clear hi); (try clear ho0)) | ((with_reducible refine gate_dst (N := 4) rfl ?_); refine box_event ?hg (N := 4) ?hd (cs := #[.int .i64 0, .slice none 0 0]) (t := 26) ?hr ?_; (case hd => rfl); (case hg => rfl); (case hr => first | (go_simp; done) | (go_simp; rfl)); intro gb403 hg w20 hbox hb; have n0_ := Aside0.mk (Kd.S_below (S_up HO398.out) hb); have n1_ := Aside0.mk (Kd.R_below (R_up HO402.out) hb); have n2_ := Aside0.mk (below_step (HB_up HB.out) hb); have n3_ := Aside0.mk (hbox); have n4_ := Aside0.mk ((by rw [hg]; exact (below_size (HB_up HB.out)) : w.heap.size ≤ gb403)); have n5_ := Aside0.mk ((by rw [hg]; exact (below_size (HB_up HB.out)) : w.heap.size ≤ gb403)); clear HO398; clear HO402; clear HB; have HO398 := n0_; have HO402 := n1_; have HB := n2_; have BK403 := n3_; have GW403 := n4_; have GE403 := n5_; clear n0_ n1_ n2_ n3_ n4_ n5_; clear hb hbox hg; have hcz21_0 : w20.cell? ⟨gb403, 0, none⟩ = some (.int .i64 0) := (blk_cell BK403.out 0).trans rfl; have hcz21_1 : w20.cell? ⟨gb403, 1, none⟩ = some (.slice none 0 0) := (blk_cell BK403.out 1).trans rfl; have hfz21_0 := blk_frozen BK403.out 0; have hfz21_1 := blk_frozen BK403.out 1; obtain ⟨Ao22, co22, eo22⟩ := Kd.R_slice HO402.out; subst eo22) | ((with_reducible refine gate_callee (f := 10) rfl ?_); refine goesL_ (some 20) rfl rfl Try.func10 (by kernel_rfl) rfl #[.slice A0 l0.length c0] rfl (by (try simp only [List.map_toArray, List.map_cons, List.map_nil]); first | done | rfl | (simp only [List.length_drop, List.length_take]; rfl)) ?_; (with_reducible refine (laws_toOpS.calls k _ _ l0 t404 _ ?side1 ?side2 A7.out).mono ?_); (case side1 => exact Kd.C_below HR0.out (by repeat (first | (with_reducible first | exact HB.out | apply below_alloc | apply pw_below_drewN | apply below_drew1 | refine below_set ?_ GE403.out) | exact HB.out))); (case side2 => exact HC0.out); rintro e w23 ⟨v405, rfl, ho0, hb⟩; refine ⟨_, rfl, ?_⟩; have n0_ := Aside0.mk (Kd.S_elder' (by (with_reducible repeat (first | apply Kd.S_alloc | apply Kd.S_drewN | apply Kd.S_drew)); exact (Kd.S_mono (Kd.S_far (p := ⟨gb403, 1, none⟩) (Kd.S_far (p := ⟨gb403, 0, none⟩) (Kd.S_types HO398.out BK403.out (by decide)) (fun _ hk => hk.2) (.int .i64 t399)) (fun _ hk => hk.2) (.slice Ao22 t400.length co22)) (fun _ h_ => h_.1))) (Kd.S_base ho0) hb); have n1_ := Aside0.mk (Kd.R_below (by (with_reducible repeat (first | apply Kd.R_alloc | apply Kd.R_drewN | apply Kd.R_drew)); exact (Kd.R_mono (Kd.R_far (p := ⟨gb403, 1, none⟩) (Kd.R_far (p := ⟨gb403, 0, none⟩) (Kd.R_types HO402.out BK403.out (by decide)) (fun _ hk => hk.2) (.int .i64 t399)) (fun _ hk => hk.2) (.slice Ao22 t400.length co22)) (fun _ h_ => h_.1))) hb); have n2_ := Aside0.mk (Kd.S_lower (Kd.S_new' (Kd.S_new' ho0 (Kd.S_lt (by (with_reducible repeat (first | apply Kd.S_alloc | apply Kd.S_drewN | apply Kd.S_drew)); exact (Kd.S_mono (Kd.S_far (p := ⟨gb403, 1, none⟩) (Kd.S_far (p := ⟨gb403, 0, none⟩) (Kd.S_types HO398.out BK403.out (by decide)) (fun _ hk => hk.2) (.int .i64 t399)) (fun _ hk => hk.2) (.slice Ao22 t400.length co22)) (fun _ h_ => h_.1))))) (Kd.R_lt (by (with_reducible repeat (first | apply Kd.R_alloc | apply Kd.R_drewN | apply Kd.R_drew)); exact (Kd.R_mono (Kd.R_far (p := ⟨gb403, 1, none⟩) (Kd.R_far (p := ⟨gb403, 0, none⟩) (Kd.R_types HO402.out BK403.out (by decide)) (fun _ hk => hk.2) (.int .i64 t399)) (fun _ hk => hk.2) (.slice Ao22 t400.length co22)) (fun _ h_ => h_.1))))) (below_size (by repeat (first | (with_reducible first | exact HB.out | apply below_alloc | apply pw_below_drewN | apply below_drew1 | refine below_set ?_ GE403.out) | exact HB.out)))); have n3_ := Aside0.mk (blk_below (g := gb403) (o := .cells #[.int .i64 t399, .slice Ao22 t400.length co22] 26 (0, 0)) (by (with_reducible repeat (first | refine blk_drewN ?_ _ | refine blk_drew ?_ | refine blk_alloc ?_ _)); refine blk_put (cs := #[.int .i64 t399, .slice none 0 0]) ?_ 1 _ rfl; (with_reducible repeat (first | refine blk_drewN ?_ _ | refine blk_drew ?_ | refine blk_alloc ?_ _)); refine blk_put (cs := #[.int .i64 0, .slice none 0 0]) ?_ 0 _ rfl; (with_reducible repeat (first | refine blk_drewN ?_ _ | refine blk_drew ?_ | refine blk_alloc ?_ _)); exact BK403.out) hb); have n4_ := Aside0.mk (below_step (by repeat (first | (with_reducible first | exact HB.out | apply below_alloc | apply pw_below_drewN | apply below_drew1 | refine below_set ?_ GE403.out) | exact HB.out)) hb); clear HO398; clear HO402; clear BK403; clear HB; have HO398 := n0_; have HO402 := n1_; have HO406 := n2_; have BK403 := n3_; have HB := n4_; clear n0_ n1_ n2_ n3_ n4_; (try clear hb); (try clear hb2); (try clear hk); (try clear hi); (try clear ho0); obtain ⟨Ao24, co24, eo24⟩ := Kd.S_slice HO406.out; subst eo24) | ((with_reducible refine gate_callee (f := 11) rfl ?_); refine goesL_ (some 22) rfl rfl Try.func11 (by kernel_rfl) rfl #[.slice Ao24 t404.length co24] rfl (by (try simp only [List.map_toArray, List.map_cons, List.map_nil]); first | done | rfl | (simp only [List.length_drop, List.length_take]; rfl)) ?_; (with_reducible refine (impl_PackOps.calls k _ _ t404 t407 t408 _ ?side1 ?side2 A8.out).mono ?_); (case side1 => exact C_up (Kd.S_reads' HO406.out).2.2); (case side2 => exact (Kd.S_reads' HO406.out).2.1); rintro e w25 ⟨v409, rfl, ho0, hb⟩; refine ⟨_, rfl, ?_⟩; have n0_ := Aside0.mk (Kd.S_elder' (S_up HO398.out) (Kd.R_base ho0) hb); have n1_ := Aside0.mk (Kd.R_elder' (R_up HO402.out) (Kd.R_base ho0) hb); have n2_ := Aside0.mk (Kd.S_elder' (S_up HO406.out) (Kd.R_base ho0) hb); have n3_ := Aside0.mk (Kd.R_lower (Kd.R_new' ho0 (Kd.R_lt (R_up HO402.out))) (below_size (by repeat (first | (with_reducible first | exact HB.out | apply below_alloc | apply pw_below_drewN | apply below_drew1 | refine below_set ?_ GE403.out) | exact HB.out)))); have n4_ := Aside0.mk (blk_below (g := gb403) (blk_up BK403.out) hb); have n5_ := Aside0.mk (below_step (by repeat (first | (with_reducible first | exact HB.out | apply below_alloc | apply pw_below_drewN | apply below_drew1 | refine below_set ?_ GE403.out) | exact HB.out)) hb); clear HO398; clear HO402; clear HO406; clear BK403; clear HB; have HO398 := n0_; have HO402 := n1_; have HO406 := n2_; have HO410 := n3_; have BK403 := n4_; have HB := n5_; clear n0_ n1_ n2_ n3_ n4_ n5_; (try clear hb); (try clear hb2); (try clear hk); (try clear hi); (try clear ho0)) | ((with_reducible refine gate_dst (N := 6) rfl ?_); refine box_event ?hg (N := 6) ?hd (cs := #[.int .i64 0, .slice none 0 0]) (t := 26) ?hr ?_; (case hd => rfl); (case hg => rfl); (case hr => first | (go_simp; done) | (go_simp; rfl)); intro gb411 hg w26 hbox hb; have n0_ := Aside0.mk (Kd.S_below (S_up HO398.out) hb); have n1_ := Aside0.mk (Kd.R_below (R_up HO402.out) hb); have n2_ := Aside0.mk (Kd.S_below (S_up HO406.out) hb); have n3_ := Aside0.mk (Kd.R_below (R_up HO410.out) hb); have n4_ := Aside0.mk (blk_below (g := gb403) (blk_up BK403.out) hb); have n5_ := Aside0.mk (below_step (by repeat (first | (with_reducible first | exact HB.out | apply below_alloc | apply pw_below_drewN | apply below_drew1 | refine below_set ?_ GE403.out) | exact HB.out)) hb); have n6_ := Aside0.mk (hbox); have n7_ := Aside0.mk ((by rw [hg]; exact (below_size (by repeat (first | (with_reducible first | exact HB.out | apply below_alloc | apply pw_below_drewN | apply below_drew1 | refine below_set ?_ GE403.out) | exact HB.out))) : w.heap.size ≤ gb411)); have n8_ := Aside0.mk ((by rw [hg]; exact (below_size (by repeat (first | (with_reducible first | exact HB.out | apply below_alloc | apply pw_below_drewN | apply below_drew1 | refine below_set ?_ GE403.out) | exact HB.out))) : w.heap.size ≤ gb411)); have n9_ := Aside0.mk ((by rw [hg]; exact Nat.ne_of_lt (blk_lt (g := gb403) (blk_up BK403.out)) : gb403 ≠ gb411)); have n10_ := Aside0.mk ((by rw [hg]; exact Nat.ne_of_gt (blk_lt (g := gb403) (blk_up BK403.out)) : gb411 ≠ gb403)); clear HO398; clear HO402; clear HO406; clear HO410; clear BK403; clear HB; have HO398 := n0_; have HO402 := n1_; have HO406 := n2_; have HO410 := n3_; have BK403 := n4_; have HB := n5_; have BK411 := n6_; have GW411 := n7_; have GE411 := n8_; have NB403_411 := n9_; have NB411_403 := n10_; clear n0_ n1_ n2_ n3_ n4_ n5_ n6_ n7_ n8_ n9_ n10_; clear hb hbox hg; have hnb27 := NB411_403.out; have hnc27 := NB403_411.out; have hcz28_0 : w26.cell? ⟨gb411, 0, none⟩ = some (.int .i64 0) := (blk_cell BK411.out 0).trans rfl; have hcz28_1 : w26.cell? ⟨gb411, 1, none⟩ = some (.slice none 0 0) := (blk_cell BK411.out 1).trans rfl; have hfz28_0 := blk_frozen BK411.out 0; have hfz28_1 := blk_frozen BK411.out 1; obtain ⟨Ao29, co29, eo29⟩ := Kd.R_slice HO410.out; subst eo29; have hcz30_0 : w26.cell? ⟨gb403, 0, none⟩ = some (.int .i64 t399) := (blk_cell BK403.out 0).trans rfl; have hcz30_1 : w26.cell? ⟨gb403, 1, none⟩ = some (.slice Ao22 t400.length co22) := (blk_cell BK403.out 1).trans rfl; have hfz30_0 := blk_frozen BK403.out 0; have hfz30_1 := blk_frozen BK403.out 1) | ((with_reducible refine gate_callee (f := 12) rfl ?_); refine goesL_ (some 25) rfl rfl Try.func12 (by kernel_rfl) rfl #[.agg #[.int .i64 t407, .slice Ao29 t408.length co29], .agg #[.int .i64 t399, .slice Ao22 t400.length co22]] rfl (by (try simp only [List.map_toArray, List.map_cons, List.map_nil]); first | done | rfl | (simp only [List.length_drop, List.length_take]; rfl)) ?_; (with_reducible refine (laws_eqBytesResult.calls k t407 _ _ t408 t399 _ _ t400 true _ ?side1 ?side2 ?side3 ?side4 A9.out).mono ?_); (case side1 => refine (Kd.R_reads' (e := 5) (base := w.heap.size) (ok := fun k_ => (True ∧ some k_ ≠ (.slice Ao22 t400.length co22 : Value).ownBlock)) (n := t408.length) (c := co29) ?_).2.2; exact (by (with_reducible repeat (first | apply Kd.R_alloc | apply Kd.R_drewN | apply Kd.R_drew)); exact (Kd.R_mono (Kd.R_far (p := ⟨gb411, 1, none⟩) (Kd.R_far (p := ⟨gb411, 0, none⟩) (Kd.R_types HO410.out BK411.out (by decide)) (fun _ hk => hk.2) (.int .i64 t407)) (fun _ hk => hk.2) (.slice Ao29 t408.length co29)) (fun _ h_ => h_.1)))); (case side2 => exact (Kd.R_reads' HO410.out).2.1); (case side3 => refine (Kd.R_reads' (e := 5) (base := w.heap.size) (ok := fun k_ => (True ∧ some k_ ≠ (.slice Ao29 t408.length co29 : Value).ownBlock)) (n := t400.length) (c := co22) ?_).2.2; exact (by (with_reducible repeat (first | apply Kd.R_alloc | apply Kd.R_drewN | apply Kd.R_drew)); exact (Kd.R_mono (Kd.R_far (p := ⟨gb411, 1, none⟩) (Kd.R_far (p := ⟨gb411, 0, none⟩) (Kd.R_types HO402.out BK411.out (by decide)) (fun _ hk => hk.2) (.int .i64 t407)) (fun _ hk => hk.2) (.slice Ao29 t408.length co29)) (fun _ h_ => h_.1)))); (case side4 => exact (Kd.R_reads' HO402.out).2.1); rintro e w31 ⟨rfl, hb⟩; refine ⟨_, rfl, ?_⟩; have n0_ := Aside0.mk (Kd.S_below (by (with_reducible repeat (first | apply Kd.S_alloc | apply Kd.S_drewN | apply Kd.S_drew)); exact (Kd.S_mono (Kd.S_far (p := ⟨gb411, 1, none⟩) (Kd.S_far (p := ⟨gb411, 0, none⟩) (Kd.S_types HO398.out BK411.out (by decide)) (fun _ hk => hk.2) (.int .i64 t407)) (fun _ hk => hk.2) (.slice Ao29 t408.length co29)) (fun _ h_ => h_.1))) hb); have n1_ := Aside0.mk (Kd.R_below (by (with_reducible repeat (first | apply Kd.R_alloc | apply Kd.R_drewN | apply Kd.R_drew)); exact (Kd.R_mono (Kd.R_far (p := ⟨gb411, 1, none⟩) (Kd.R_far (p := ⟨gb411, 0, none⟩) (Kd.R_types HO402.out BK411.out (by decide)) (fun _ hk => hk.2) (.int .i64 t407)) (fun _ hk => hk.2) (.slice Ao29 t408.length co29)) (fun _ h_ => h_.1))) hb); have n2_ := Aside0.mk (Kd.S_below (by (with_reducible repeat (first | apply Kd.S_alloc | apply Kd.S_drewN | apply Kd.S_drew)); exact (Kd.S_mono (Kd.S_far (p := ⟨gb411, 1, none⟩) (Kd.S_far (p := ⟨gb411, 0, none⟩) (Kd.S_types HO406.out BK411.out (by decide)) (fun _ hk => hk.2) (.int .i64 t407)) (fun _ hk => hk.2) (.slice Ao29 t408.length co29)) (fun _ h_ => h_.1))) hb); have n3_ := Aside0.mk (Kd.R_below (by (with_reducible repeat (first | apply Kd.R_alloc | apply Kd.R_drewN | apply Kd.R_drew)); exact (Kd.R_mono (Kd.R_far (p := ⟨gb411, 1, none⟩) (Kd.R_far (p := ⟨gb411, 0, none⟩) (Kd.R_types HO410.out BK411.out (by decide)) (fun _ hk => hk.2) (.int .i64 t407)) (fun _ hk => hk.2) (.slice Ao29 t408.length co29)) (fun _ h_ => h_.1))) hb); have n4_ := Aside0.mk (blk_below (g := gb403) (o := .cells #[.int .i64 t399, .slice Ao22 t400.length co22] 26 (0, 0)) (by (with_reducible repeat (first | refine blk_drewN ?_ _ | refine blk_drew ?_ | refine blk_alloc ?_ _)); refine blk_far ?_ NB403_411.out _; (with_reducible repeat (first | refine blk_drewN ?_ _ | refine blk_drew ?_ | refine blk_alloc ?_ _)); refine blk_far ?_ NB403_411.out _; (with_reducible repeat (first | refine blk_drewN ?_ _ | refine blk_drew ?_ | refine blk_alloc ?_ _)); exact BK403.out) hb); have n5_ := Aside0.mk (blk_below (g := gb411) (o := .cells #[.int .i64 t407, .slice Ao29 t408.length co29] 26 (0, 0)) (by (with_reducible repeat (first | refine blk_drewN ?_ _ | refine blk_drew ?_ | refine blk_alloc ?_ _)); refine blk_put (cs := #[.int .i64 t407, .slice none 0 0]) ?_ 1 _ rfl; (with_reducible repeat (first | refine blk_drewN ?_ _ | refine blk_drew ?_ | refine blk_alloc ?_ _)); refine blk_put (cs := #[.int .i64 0, .slice none 0 0]) ?_ 0 _ rfl; (with_reducible repeat (first | refine blk_drewN ?_ _ | refine blk_drew ?_ | refine blk_alloc ?_ _)); exact BK411.out) hb); have n6_ := Aside0.mk (below_step (by repeat (first | (with_reducible first | exact HB.out | apply below_alloc | apply pw_below_drewN | apply below_drew1 | refine below_set ?_ GE403.out | refine below_set ?_ GE411.out) | exact HB.out)) hb); clear HO398; clear HO402; clear HO406; clear HO410; clear BK403; clear BK411; clear HB; have HO398 := n0_; have HO402 := n1_; have HO406 := n2_; have HO410 := n3_; have BK403 := n4_; have BK411 := n5_; have HB := n6_; clear n0_ n1_ n2_ n3_ n4_ n5_ n6_; (try clear hb); (try clear hb2); (try clear hk); (try clear hi)) | ((with_reducible refine gate_callee (f := 10) rfl ?_); refine goesL_ (some 29) rfl rfl Try.func10 (by kernel_rfl) rfl #[.slice A0 l0.length c0] rfl (by (try simp only [List.map_toArray, List.map_cons, List.map_nil]); first | done | rfl | (simp only [List.length_drop, List.length_take]; rfl)) ?_; (with_reducible refine (laws_toOpS.calls k _ _ l0 t413 _ ?side1 ?side2 A11.out).mono ?_); (case side1 => exact C_up (Kd.C_below HR0.out HB.out)); (case side2 => exact HC0.out); rintro e w32 ⟨v414, rfl, ho0, hb⟩; refine ⟨_, rfl, ?_⟩; have n0_ := Aside0.mk (Kd.S_elder' (S_up HO398.out) (Kd.S_base ho0) hb); have n1_ := Aside0.mk (Kd.R_below (R_up HO402.out) hb); have n2_ := Aside0.mk (Kd.S_elder' (S_up HO406.out) (Kd.S_base ho0) hb); have n3_ := Aside0.mk (Kd.R_below (R_up HO410.out) hb); have n4_ := Aside0.mk (Kd.S_lower (Kd.S_new' (Kd.S_new' (Kd.S_new' (Kd.S_new' ho0 (Kd.S_lt (S_up HO398.out))) (Kd.R_lt (R_up HO402.out))) (Kd.S_lt (S_up HO406.out))) (Kd.R_lt (R_up HO410.out))) (below_size (by repeat (first | (with_reducible first | exact HB.out | apply below_alloc | apply pw_below_drewN | apply below_drew1 | refine below_set ?_ GE403.out | refine below_set ?_ GE411.out) | exact HB.out)))); have n5_ := Aside0.mk (blk_below (g := gb403) (blk_up BK403.out) hb); have n6_ := Aside0.mk (blk_below (g := gb411) (blk_up BK411.out) hb); have n7_ := Aside0.mk (below_step (by repeat (first | (with_reducible first | exact HB.out | apply below_alloc | apply pw_below_drewN | apply below_drew1 | refine below_set ?_ GE403.out | refine below_set ?_ GE411.out) | exact HB.out)) hb); clear HO398; clear HO402; clear HO406; clear HO410; clear BK403; clear BK411; clear HB; have HO398 := n0_; have HO402 := n1_; have HO406 := n2_; have HO410 := n3_; have HO415 := n4_; have BK403 := n5_; have BK411 := n6_; have HB := n7_; clear n0_ n1_ n2_ n3_ n4_ n5_ n6_ n7_; (try clear hb); (try clear hb2); (try clear hk); (try clear hi); (try clear ho0); obtain ⟨Ao33, co33, eo33⟩ := Kd.S_slice HO415.out; subst eo33) | ((with_reducible refine gate_callee (f := 13) rfl ?_); refine goesL_ (some 30) rfl rfl Try.func13 (by kernel_rfl) rfl #[.slice Ao24 t404.length co24, .slice Ao33 t413.length co33] rfl (by (try simp only [List.map_toArray, List.map_cons, List.map_nil]); first | done | rfl | (simp only [List.length_drop, List.length_take]; rfl)) ?_; (with_reducible refine (laws_eqOpS.calls k _ _ t404 _ _ t413 true _ ?side1 ?side2 ?side3 ?side4 A12.out).mono ?_); (case side1 => exact C_up (Kd.S_reads' HO406.out).2.2); (case side2 => exact (Kd.S_reads' HO406.out).2.1); (case side3 => exact C_up (Kd.S_reads' HO415.out).2.2); (case side4 => exact (Kd.S_reads' HO415.out).2.1); rintro e w34 ⟨rfl, hb⟩; refine ⟨_, rfl, ?_⟩; have n0_ := Aside0.mk (Kd.S_below (S_up HO398.out) hb); have n1_ := Aside0.mk (Kd.R_below (R_up HO402.out) hb); have n2_ := Aside0.mk (Kd.S_below (S_up HO406.out) hb); have n3_ := Aside0.mk (Kd.R_below (R_up HO410.out) hb); have n4_ := Aside0.mk (Kd.S_below (S_up HO415.out) hb); have n5_ := Aside0.mk (blk_below (g := gb403) (blk_up BK403.out) hb); have n6_ := Aside0.mk (blk_below (g := gb411) (blk_up BK411.out) hb); have n7_ := Aside0.mk (below_step (by repeat (first | (with_reducible first | exact HB.out | apply below_alloc | apply pw_below_drewN | apply below_drew1 | refine below_set ?_ GE403.out | refine below_set ?_ GE411.out) | exact HB.out)) hb); clear HO398; clear HO402; clear HO406; clear HO410; clear HO415; clear BK403; clear BK411; clear HB; have HO398 := n0_; have HO402 := n1_; have HO406 := n2_; have HO410 := n3_; have HO415 := n4_; have BK403 := n5_; have BK411 := n6_; have HB := n7_; clear n0_ n1_ n2_ n3_ n4_ n5_ n6_ n7_; (try clear hb); (try clear hb2); (try clear hk); (try clear hi)) | ((with_reducible refine gate_callee (f := 14) rfl ?_); refine goesL_ (some 34) rfl rfl Try.func14 (by kernel_rfl) rfl #[.slice Ao24 t404.length co24, .int .i64 1] rfl (by (try simp only [List.map_toArray, List.map_cons, List.map_nil]); first | done | rfl | (simp only [List.length_drop, List.length_take]; rfl)) ?_; (with_reducible refine (laws_markOpS.calls k (fun k_ => ((((((True ∧ some k_ ≠ (.slice Ao18 t396.length co18 : Value).ownBlock) ∧ some k_ ≠ (.slice Ao22 t400.length co22 : Value).ownBlock) ∧ some k_ ≠ (.slice Ao29 t408.length co29 : Value).ownBlock) ∧ some k_ ≠ (.slice Ao33 t413.length co33 : Value).ownBlock) ∧ k_ ≠ gb403) ∧ k_ ≠ gb411)) (.slice Ao24 t404.length co24) t404 1 t417 t418 w _ ?side1 ?side2 A14.out).mono ?_); (case side1 => repeat (first | (with_reducible first | exact HB.out | apply below_alloc | apply pw_below_drewN | apply below_drew1 | refine below_set ?_ GE403.out | refine below_set ?_ GE411.out) | exact HB.out)); (case side2 => exact (Kd.S_types (Kd.S_types HO406.out (g := gb403) (blk_up BK403.out) (by decide)) (g := gb411) (blk_up BK411.out) (by decide))); rintro e w35 ⟨rfl, hy0, hb, hkp⟩; refine ⟨_, rfl, ?_⟩; have n0_ := Aside0.mk (Kd.R_mono (ok' := fun k_ => some k_ ≠ (.slice Ao29 t408.length co29 : Value).ownBlock) (Kd.R_keptB ((laws_markOpS.R_offS hkp rfl HO402.out (fun k_ hs_ => hs_.1.1.1.1.2))) hkp (fun k_ hk_ hs_ => (hk_.2) hs_)) (fun k_ hk_ => hk_.1.1.2)); have n1_ := Aside0.mk (blk_kept (blk_up BK403.out) hkp (fun hs_ => (fun e_ => (e_.1.2) rfl) hs_)); have n2_ := Aside0.mk (Kd.S_mono hy0 (fun _ h_ => h_.1.1)); have n3_ := Aside0.mk (Kd.R_mono (ok' := fun k_ => some k_ ≠ (.slice Ao22 t400.length co22 : Value).ownBlock) (Kd.R_keptB ((laws_markOpS.R_offS hkp rfl HO410.out (fun k_ hs_ => hs_.1.1.1.2))) hkp (fun k_ hk_ hs_ => (hk_.2) hs_)) (fun k_ hk_ => hk_.1.1.2)); have n4_ := Aside0.mk (blk_kept (blk_up BK411.out) hkp (fun hs_ => (fun e_ => (e_.2) rfl) hs_)); have n5_ := Aside0.mk (hb); clear HO402; clear BK403; clear HO406; clear HO410; clear BK411; clear HB; clear HO398; clear HO415; have HO402 := n0_; have BK403 := n1_; have HO406 := n2_; have HO410 := n3_; have BK411 := n4_; have HB := n5_; clear n0_ n1_ n2_ n3_ n4_ n5_; (try clear hb); (try clear hkp); (try clear hy0)))
       (try simp only [Act.put, List.setIfInBounds_toArray, List.set_cons_zero, List.set_cons_succ])
       go_cut [42] (fun v42 wc => ∃ (kq : Nat) (x42_14 : Bool), v42 = .bool x42_14 ∧ Aside0 (laws_FnExactPackOps.j0 kq l0 x42_14 t399 t400 t407 t408 = some r) ∧ Aside0 (kq ≤ k) ∧ Aside0 (Kd.R (Kd.int .u8) 5 wc w.heap.size (fun k_ => some k_ ≠ ((.slice Ao29 t408.length co29) : Value).ownBlock) (.slice Ao22 t400.length co22) t400) ∧ Aside0 (Kd.R (Kd.int .u8) 5 wc w.heap.size (fun k_ => some k_ ≠ ((.slice Ao22 t400.length co22) : Value).ownBlock) (.slice Ao29 t408.length co29) t408) ∧ Aside0 (wc.heap[gb403]? = some (.cells #[.int .i64 t399, (.slice Ao22 t400.length co22)] 26 (0, 0))) ∧ Aside0 (wc.heap[gb411]? = some (.cells #[.int .i64 t407, (.slice Ao29 t408.length co29)] 26 (0, 0))) ∧ Aside0 (Below w.heap.size w wc))
       case first =>
        have H := HC15.out
        clear HC15
        by_cases c36 : t417 < 0
        · rw [if_pos c36] at H
          have c36b0 : decide (t417 < 0) = true := decide_eq_true c36
          clear c36
          (first | rw [c36b0] | (simp only [i64_w, i32_w]; rw [c36b0]) | skip)
          have H' := Aside0.mk H
          clear H
          go_wp2
          go_meet
          case rel => exact ⟨_, (true), (by first | rfl | (simp; done) | (simp [*]; done) | (simp; generalize ByteArray.toList _ = zq_; cases zq_ <;> rfl)), H', ⟨by first | omega | exact Nat.le_refl _⟩, ⟨by (with_reducible repeat (first | apply Kd.R_alloc | apply Kd.R_drewN | apply Kd.R_drew)); exact HO402.out⟩, ⟨by (with_reducible repeat (first | apply Kd.R_alloc | apply Kd.R_drewN | apply Kd.R_drew)); exact HO410.out⟩, ⟨by (with_reducible repeat (first | refine blk_drewN ?_ _ | refine blk_drew ?_ | refine blk_alloc ?_ _)); exact BK403.out⟩, ⟨by (with_reducible repeat (first | refine blk_drewN ?_ _ | refine blk_drew ?_ | refine blk_alloc ?_ _)); exact BK411.out⟩, ⟨by repeat (first | (with_reducible first | exact HB.out | apply below_alloc | apply pw_below_drewN | apply below_drew1 | refine below_set ?_ GE403.out | refine below_set ?_ GE411.out) | exact HB.out)⟩⟩
        · rw [if_neg c36] at H
          have c36b0 : decide (t417 < 0) = false := decide_eq_false c36
          clear c36
          (first | rw [c36b0] | (simp only [i64_w, i32_w]; rw [c36b0]) | skip)
          replace H := Option.bind_eq_some_iff.mp H
          obtain ⟨t419, A370, H⟩ := H
          (try dsimp only at H)
          have A37 := Aside0.mk A370
          clear A370
          have H' := Aside0.mk H
          clear H
          have hnb38 := NB411_403.out
          have hnc38 := NB403_411.out
          have hcz39_0 : w35.cell? ⟨gb411, 0, none⟩ = some (.int .i64 t407) := (blk_cell BK411.out 0).trans rfl
          have hcz39_1 : w35.cell? ⟨gb411, 1, none⟩ = some (.slice Ao29 t408.length co29) := (blk_cell BK411.out 1).trans rfl
          have hfz39_0 := blk_frozen BK411.out 0
          have hfz39_1 := blk_frozen BK411.out 1
          have hcz40_0 : w35.cell? ⟨gb403, 0, none⟩ = some (.int .i64 t399) := (blk_cell BK403.out 0).trans rfl
          have hcz40_1 : w35.cell? ⟨gb403, 1, none⟩ = some (.slice Ao22 t400.length co22) := (blk_cell BK403.out 1).trans rfl
          have hfz40_0 := blk_frozen BK403.out 0
          have hfz40_1 := blk_frozen BK403.out 1
          go_wp2_with (first | (go_at_call 12; (with_reducible refine (laws_eqBytesResult.calls k t407 _ _ t408 t399 _ _ t400 t419 _ ?side1 ?side2 ?side3 ?side4 A37.out).mono ?_); (case side1 => exact C_up (Kd.R_reads' HO410.out).2.2); (case side2 => exact (Kd.R_reads' HO410.out).2.1); (case side3 => exact C_up (Kd.R_reads' HO402.out).2.2); (case side4 => exact (Kd.R_reads' HO402.out).2.1); rintro e w41 ⟨rfl, hb⟩; have n0_ := Aside0.mk (Kd.R_below (R_up HO402.out) hb); have n1_ := Aside0.mk (Kd.S_below (S_up HO406.out) hb); have n2_ := Aside0.mk (Kd.R_below (R_up HO410.out) hb); have n3_ := Aside0.mk (blk_below (g := gb403) (blk_up BK403.out) hb); have n4_ := Aside0.mk (blk_below (g := gb411) (blk_up BK411.out) hb); have n5_ := Aside0.mk (below_step (by repeat (first | (with_reducible first | exact HB.out | apply below_alloc | apply pw_below_drewN | apply below_drew1 | refine below_set ?_ GE403.out | refine below_set ?_ GE411.out) | exact HB.out)) hb); clear HO402; clear HO406; clear HO410; clear BK403; clear BK411; clear HB; have HO402 := n0_; have HO406 := n1_; have HO410 := n2_; have BK403 := n3_; have BK411 := n4_; have HB := n5_; clear n0_ n1_ n2_ n3_ n4_ n5_; (try clear hb); (try clear hb2); (try clear hk); (try clear hi)))
          go_meet
          case rel => exact ⟨_, (!t419), (by first | rfl | (simp; done) | (simp [*]; done) | (simp; generalize ByteArray.toList _ = zq_; cases zq_ <;> rfl)), H', ⟨by first | omega | exact Nat.le_refl _⟩, ⟨by (with_reducible repeat (first | apply Kd.R_alloc | apply Kd.R_drewN | apply Kd.R_drew)); exact HO402.out⟩, ⟨by (with_reducible repeat (first | apply Kd.R_alloc | apply Kd.R_drewN | apply Kd.R_drew)); exact HO410.out⟩, ⟨by (with_reducible repeat (first | refine blk_drewN ?_ _ | refine blk_drew ?_ | refine blk_alloc ?_ _)); exact BK403.out⟩, ⟨by (with_reducible repeat (first | refine blk_drewN ?_ _ | refine blk_drew ?_ | refine blk_alloc ?_ _)); exact BK411.out⟩, ⟨by repeat (first | (with_reducible first | exact HB.out | apply below_alloc | apply pw_below_drewN | apply below_drew1 | refine below_set ?_ GE403.out | refine below_set ?_ GE411.out) | exact HB.out)⟩⟩
       case rest =>
        clear HC15
        try clear c3
        try clear c3b0
        try clear c10
        try clear c13
        try clear hcz21_0
        try clear hcz21_1
        try clear hcz28_0
        try clear hcz28_1
        try clear hcz30_0
        try clear hcz30_1
        try clear hfz21_0
        try clear hfz21_1
        try clear hfz28_0
        try clear hfz28_1
        try clear hfz30_0
        try clear hfz30_1
        obtain ⟨kq, x42_14, rfl, HA, HJ14, HO_404001, HO_412001, BK403, BK411, HB⟩ := hcut
        cases kq with
        | zero => exact absurd HA.out (by simp [laws_FnExactPackOps.j0])
        | succ kj14 =>
          have H := HA.out
          clear HA
          simp only [laws_FnExactPackOps.j0] at H
          by_cases c42 : x42_14 = true
          · subst c42
            (try rw [if_pos rfl] at H)
            exact absurd H (by simp)
          · replace c42 := Bool.eq_false_iff.mpr c42
            subst c42
            (try rw [if_neg (show ¬ (false = true) by decide)] at H)
            replace H := Option.bind_eq_some_iff.mp H
            obtain ⟨⟨t420, t421⟩, A430, H⟩ := H
            (try dsimp only at H)
            have A43 := Aside0.mk A430
            clear A430
            replace H := Option.bind_eq_some_iff.mp H
            obtain ⟨t422, A440, H⟩ := H
            (try dsimp only at H)
            have A44 := Aside0.mk A440
            clear A440
            by_cases c45 : t422 < 0
            · rw [if_pos c45] at H
              exact absurd H (by simp)
            · rw [if_neg c45] at H
              have c45b0 : decide (t422 < 0) = false := decide_eq_false c45
              clear c45
              by_cases c46 : t422 = t420
              case neg => rw [if_neg c46] at H; exact absurd H (by simp)
              rw [if_pos c46] at H
              have c46b0 : (t422 == t420) = true := beq_iff_eq.mpr c46
              have c46b1 : (t422 != t420) = false := bne_eq_false_iff_eq.mpr c46
              clear c46
              replace H := Option.bind_eq_some_iff.mp H
              obtain ⟨t423, A470, H⟩ := H
              (try dsimp only at H)
              have A47 := Aside0.mk A470
              clear A470
              replace H := Option.bind_eq_some_iff.mp H
              obtain ⟨⟨t426, t427⟩, A480, H⟩ := H
              (try dsimp only at H)
              have A48 := Aside0.mk A480
              clear A480
              replace H := Option.bind_eq_some_iff.mp H
              obtain ⟨t431, A490, H⟩ := H
              (try dsimp only at H)
              have A49 := Aside0.mk A490
              clear A490
              by_cases c50 : t431 = true
              · subst c50
                (try rw [if_pos rfl] at H)
                replace H := Option.bind_eq_some_iff.mp H
                obtain ⟨t432, A510, H⟩ := H
                (try dsimp only at H)
                have A51 := Aside0.mk A510
                clear A510
                by_cases c52 : t432 < 0
                · rw [if_pos c52] at H
                  exact absurd H (by simp)
                · rw [if_neg c52] at H
                  have c52b0 : decide (t432 < 0) = false := decide_eq_false c52
                  clear c52
                  by_cases c53 : t432 = t420
                  case neg => rw [if_neg c53] at H; exact absurd H (by simp)
                  rw [if_pos c53] at H
                  have c53b0 : (t432 == t420) = true := beq_iff_eq.mpr c53
                  have c53b1 : (t432 != t420) = false := bne_eq_false_iff_eq.mpr c53
                  clear c53
                  obtain rfl := Option.some.inj H
                  have hnb54 := NB411_403.out
                  have hnc54 := NB403_411.out
                  have hcz55_0 : wc.cell? ⟨gb411, 0, none⟩ = some (.int .i64 t407) := (blk_cell BK411.out 0).trans rfl
                  have hcz55_1 : wc.cell? ⟨gb411, 1, none⟩ = some (.slice Ao29 t408.length co29) := (blk_cell BK411.out 1).trans rfl
                  have hfz55_0 := blk_frozen BK411.out 0
                  have hfz55_1 := blk_frozen BK411.out 1
                  go_wp2_with (first | ((with_reducible refine gate_callee (f := 15) rfl ?_); refine goesL_ (some 45) rfl rfl Try.func15 (by kernel_rfl) rfl #[.agg #[.int .i64 t407, .slice Ao29 t408.length co29], .int .i64 1] rfl (by (try simp only [List.map_toArray, List.map_cons, List.map_nil]); first | done | rfl | (simp only [List.length_drop, List.length_take]; rfl)) ?_; (with_reducible refine (laws_markBytesResult.calls kj14 t407 (fun k_ => some k_ = (.slice Ao29 t408.length co29 : Value).ownBlock) (.slice Ao29 t408.length co29) t408 1 t420 t421 w _ ?side1 ?side2 A43.out).mono ?_); (case side1 => repeat (first | (with_reducible first | exact HB.out | apply below_alloc | apply pw_below_drewN | apply below_drew1 | refine below_set ?_ GE403.out | refine below_set ?_ GE411.out) | exact HB.out)); (case side2 => exact Kd.R_tight rfl HO_412001.out); rintro e w56 ⟨rfl, hy0, hb, hkp⟩; refine ⟨_, rfl, ?_⟩; have n0_ := Aside0.mk (Kd.R_mono (ok' := fun k_ => some k_ ≠ (.slice Ao29 t408.length co29 : Value).ownBlock) (Kd.R_keptB (HO_404001.out) hkp (fun k_ hk_ hs_ => (hk_) hs_)) (fun k_ hk_ => hk_.1)); have n1_ := Aside0.mk (Kd.R_reok rfl hy0 (fun k_ e_ => HO_412001.out.1 k_ e_)); have n2_ := Aside0.mk (blk_kept (blk_up BK403.out) hkp (fun hs_ => (fun e_ => (Kd.R_ne HO_412001.out BK403.out (by decide)) e_) hs_)); have n3_ := Aside0.mk (blk_kept (blk_up BK411.out) hkp (fun hs_ => (fun e_ => (Kd.R_ne HO_412001.out BK411.out (by decide)) e_) hs_)); have n4_ := Aside0.mk (hb); clear HO_404001; clear HO_412001; clear BK403; clear BK411; clear HB; have HO_404001 := n0_; have HO_412001 := n1_; have BK403 := n2_; have BK411 := n3_; have HB := n4_; clear n0_ n1_ n2_ n3_ n4_; (try clear hb); (try clear hkp); (try clear hy0); have hcz57_0 : w56.cell? ⟨gb411, 0, none⟩ = some (.int .i64 t407) := (blk_cell BK411.out 0).trans rfl; have hcz57_1 : w56.cell? ⟨gb411, 1, none⟩ = some (.slice Ao29 t408.length co29) := (blk_cell BK411.out 1).trans rfl; have hfz57_0 := blk_frozen BK411.out 0; have hfz57_1 := blk_frozen BK411.out 1) | ((with_reducible refine gate_callee (f := 16) rfl ?_); refine goesL_ (some 48) rfl rfl Try.func16 (by kernel_rfl) rfl #[.agg #[.int .i64 t407, .slice Ao29 t421.length co29], .int .i64 1] rfl (by (try simp only [List.map_toArray, List.map_cons, List.map_nil]); first | done | (rw [show t421.length = t408.length from (Kd.R_reads' HO_412001.out).1.symm] <;> rfl) | rfl | (simp only [List.length_drop, List.length_take]; rfl)) ?_; (with_reducible refine (laws_heldBytesResult.calls kj14 t407 _ _ t421 1 t422 _ ?side1 ?side2 A44.out).mono ?_); (case side1 => exact C_up (Kd.R_reads' HO_412001.out).2.2); (case side2 => rw [show t421.length = t408.length from (Kd.R_reads' HO_412001.out).1.symm]; exact (Kd.R_reads' HO_412001.out).2.1); rintro e w58 ⟨rfl, hb⟩; refine ⟨_, rfl, ?_⟩; have n0_ := Aside0.mk (Kd.R_below (R_up HO_404001.out) hb); have n1_ := Aside0.mk (Kd.R_below (R_up HO_412001.out) hb); have n2_ := Aside0.mk (blk_below (g := gb403) (blk_up BK403.out) hb); have n3_ := Aside0.mk (blk_below (g := gb411) (blk_up BK411.out) hb); have n4_ := Aside0.mk (below_step (by repeat (first | (with_reducible first | exact HB.out | apply below_alloc | apply pw_below_drewN | apply below_drew1 | refine below_set ?_ GE403.out | refine below_set ?_ GE411.out) | exact HB.out)) hb); clear HO_404001; clear HO_412001; clear BK403; clear BK411; clear HB; have HO_404001 := n0_; have HO_412001 := n1_; have BK403 := n2_; have BK411 := n3_; have HB := n4_; clear n0_ n1_ n2_ n3_ n4_; (try clear hb); (try clear hb2); (try clear hk); (try clear hi)) | ((with_reducible refine gate_callee (f := 10) rfl ?_); refine goesL_ (some 55) rfl rfl Try.func10 (by kernel_rfl) rfl #[.slice A0 l0.length c0] rfl (by (try simp only [List.map_toArray, List.map_cons, List.map_nil]); first | done | rfl | (simp only [List.length_drop, List.length_take]; rfl)) ?_; (with_reducible refine (laws_toOpS.calls kj14 _ _ l0 t423 _ ?side1 ?side2 A47.out).mono ?_); (case side1 => exact C_up (Kd.C_below HR0.out HB.out)); (case side2 => exact HC0.out); rintro e w59 ⟨v424, rfl, ho0, hb⟩; refine ⟨_, rfl, ?_⟩; have n0_ := Aside0.mk (Kd.R_below (R_up HO_404001.out) hb); have n1_ := Aside0.mk (Kd.R_below (R_up HO_412001.out) hb); have n2_ := Aside0.mk (Kd.S_lower (Kd.S_new' (Kd.S_new' ho0 (Kd.R_lt (R_up HO_404001.out))) (Kd.R_lt (R_up HO_412001.out))) (below_size (by repeat (first | (with_reducible first | exact HB.out | apply below_alloc | apply pw_below_drewN | apply below_drew1 | refine below_set ?_ GE403.out | refine below_set ?_ GE411.out) | exact HB.out)))); have n3_ := Aside0.mk (blk_below (g := gb403) (blk_up BK403.out) hb); have n4_ := Aside0.mk (blk_below (g := gb411) (blk_up BK411.out) hb); have n5_ := Aside0.mk (below_step (by repeat (first | (with_reducible first | exact HB.out | apply below_alloc | apply pw_below_drewN | apply below_drew1 | refine below_set ?_ GE403.out | refine below_set ?_ GE411.out) | exact HB.out)) hb); clear HO_404001; clear HO_412001; clear BK403; clear BK411; clear HB; have HO_404001 := n0_; have HO_412001 := n1_; have HO425 := n2_; have BK403 := n3_; have BK411 := n4_; have HB := n5_; clear n0_ n1_ n2_ n3_ n4_ n5_; (try clear hb); (try clear hb2); (try clear hk); (try clear hi); (try clear ho0); obtain ⟨Ao60, co60, eo60⟩ := Kd.S_slice HO425.out; subst eo60) | ((with_reducible refine gate_callee (f := 11) rfl ?_); refine goesL_ (some 56) rfl rfl Try.func11 (by kernel_rfl) rfl #[.slice Ao60 t423.length co60] rfl (by (try simp only [List.map_toArray, List.map_cons, List.map_nil]); first | done | rfl | (simp only [List.length_drop, List.length_take]; rfl)) ?_; (with_reducible refine (impl_PackOps.calls kj14 _ _ t423 t426 t427 _ ?side1 ?side2 A48.out).mono ?_); (case side1 => exact C_up (Kd.S_reads' HO425.out).2.2); (case side2 => exact (Kd.S_reads' HO425.out).2.1); rintro e w61 ⟨v428, rfl, ho0, hb⟩; refine ⟨_, rfl, ?_⟩; have n0_ := Aside0.mk (Kd.R_elder' (R_up HO_404001.out) (Kd.R_base ho0) hb); have n1_ := Aside0.mk (Kd.R_elder' (R_up HO_412001.out) (Kd.R_base ho0) hb); have n2_ := Aside0.mk (Kd.S_elder' (S_up HO425.out) (Kd.R_base ho0) hb); have n3_ := Aside0.mk (Kd.R_lower (Kd.R_new' (Kd.R_new' ho0 (Kd.R_lt (R_up HO_404001.out))) (Kd.R_lt (R_up HO_412001.out))) (below_size (by repeat (first | (with_reducible first | exact HB.out | apply below_alloc | apply pw_below_drewN | apply below_drew1 | refine below_set ?_ GE403.out | refine below_set ?_ GE411.out) | exact HB.out)))); have n4_ := Aside0.mk (blk_below (g := gb403) (blk_up BK403.out) hb); have n5_ := Aside0.mk (blk_below (g := gb411) (blk_up BK411.out) hb); have n6_ := Aside0.mk (below_step (by repeat (first | (with_reducible first | exact HB.out | apply below_alloc | apply pw_below_drewN | apply below_drew1 | refine below_set ?_ GE403.out | refine below_set ?_ GE411.out) | exact HB.out)) hb); clear HO_404001; clear HO_412001; clear HO425; clear BK403; clear BK411; clear HB; have HO_404001 := n0_; have HO_412001 := n1_; have HO425 := n2_; have HO429 := n3_; have BK403 := n4_; have BK411 := n5_; have HB := n6_; clear n0_ n1_ n2_ n3_ n4_ n5_ n6_; (try clear hb); (try clear hb2); (try clear hk); (try clear hi); (try clear ho0)) | ((with_reducible refine gate_dst (N := 10) rfl ?_); refine box_event ?hg (N := 10) ?hd (cs := #[.int .i64 0, .slice none 0 0]) (t := 26) ?hr ?_; (case hd => rfl); (case hg => rfl); (case hr => first | (go_simp; done) | (go_simp; rfl)); intro gb430 hg w62 hbox hb; have n0_ := Aside0.mk (Kd.R_below (R_up HO_404001.out) hb); have n1_ := Aside0.mk (Kd.R_below (R_up HO_412001.out) hb); have n2_ := Aside0.mk (Kd.S_below (S_up HO425.out) hb); have n3_ := Aside0.mk (Kd.R_below (R_up HO429.out) hb); have n4_ := Aside0.mk (blk_below (g := gb403) (blk_up BK403.out) hb); have n5_ := Aside0.mk (blk_below (g := gb411) (blk_up BK411.out) hb); have n6_ := Aside0.mk (below_step (by repeat (first | (with_reducible first | exact HB.out | apply below_alloc | apply pw_below_drewN | apply below_drew1 | refine below_set ?_ GE403.out | refine below_set ?_ GE411.out) | exact HB.out)) hb); have n7_ := Aside0.mk (hbox); have n8_ := Aside0.mk ((by rw [hg]; exact (below_size (by repeat (first | (with_reducible first | exact HB.out | apply below_alloc | apply pw_below_drewN | apply below_drew1 | refine below_set ?_ GE403.out | refine below_set ?_ GE411.out) | exact HB.out))) : w.heap.size ≤ gb430)); have n9_ := Aside0.mk ((by rw [hg]; exact (below_size (by repeat (first | (with_reducible first | exact HB.out | apply below_alloc | apply pw_below_drewN | apply below_drew1 | refine below_set ?_ GE403.out | refine below_set ?_ GE411.out) | exact HB.out))) : w.heap.size ≤ gb430)); have n10_ := Aside0.mk ((by rw [hg]; exact Nat.ne_of_lt (blk_lt (g := gb403) (blk_up BK403.out)) : gb403 ≠ gb430)); have n11_ := Aside0.mk ((by rw [hg]; exact Nat.ne_of_gt (blk_lt (g := gb403) (blk_up BK403.out)) : gb430 ≠ gb403)); have n12_ := Aside0.mk ((by rw [hg]; exact Nat.ne_of_lt (blk_lt (g := gb411) (blk_up BK411.out)) : gb411 ≠ gb430)); have n13_ := Aside0.mk ((by rw [hg]; exact Nat.ne_of_gt (blk_lt (g := gb411) (blk_up BK411.out)) : gb430 ≠ gb411)); clear HO_404001; clear HO_412001; clear HO425; clear HO429; clear BK403; clear BK411; clear HB; have HO_404001 := n0_; have HO_412001 := n1_; have HO425 := n2_; have HO429 := n3_; have BK403 := n4_; have BK411 := n5_; have HB := n6_; have BK430 := n7_; have GW430 := n8_; have GE430 := n9_; have NB403_430 := n10_; have NB430_403 := n11_; have NB411_430 := n12_; have NB430_411 := n13_; clear n0_ n1_ n2_ n3_ n4_ n5_ n6_ n7_ n8_ n9_ n10_ n11_ n12_ n13_; clear hb hbox hg; have hnb63 := NB430_403.out; have hnc63 := NB403_430.out; have hnb64 := NB430_411.out; have hnc64 := NB411_430.out; have hcz65_0 : w62.cell? ⟨gb430, 0, none⟩ = some (.int .i64 0) := (blk_cell BK430.out 0).trans rfl; have hcz65_1 : w62.cell? ⟨gb430, 1, none⟩ = some (.slice none 0 0) := (blk_cell BK430.out 1).trans rfl; have hfz65_0 := blk_frozen BK430.out 0; have hfz65_1 := blk_frozen BK430.out 1; obtain ⟨Ao66, co66, eo66⟩ := Kd.R_slice HO429.out; subst eo66; have hcz67_0 : w62.cell? ⟨gb403, 0, none⟩ = some (.int .i64 t399) := (blk_cell BK403.out 0).trans rfl; have hcz67_1 : w62.cell? ⟨gb403, 1, none⟩ = some (.slice Ao22 t400.length co22) := (blk_cell BK403.out 1).trans rfl; have hfz67_0 := blk_frozen BK403.out 0; have hfz67_1 := blk_frozen BK403.out 1) | ((with_reducible refine gate_callee (f := 12) rfl ?_); refine goesL_ (some 59) rfl rfl Try.func12 (by kernel_rfl) rfl #[.agg #[.int .i64 t426, .slice Ao66 t427.length co66], .agg #[.int .i64 t399, .slice Ao22 t400.length co22]] rfl (by (try simp only [List.map_toArray, List.map_cons, List.map_nil]); first | done | rfl | (simp only [List.length_drop, List.length_take]; rfl)) ?_; (with_reducible refine (laws_eqBytesResult.calls kj14 t426 _ _ t427 t399 _ _ t400 true _ ?side1 ?side2 ?side3 ?side4 A49.out).mono ?_); (case side1 => refine (Kd.R_reads' (e := 5) (base := w.heap.size) (ok := fun k_ => ((True ∧ some k_ ≠ (.slice Ao22 t400.length co22 : Value).ownBlock) ∧ some k_ ≠ (.slice Ao29 t408.length co29 : Value).ownBlock)) (n := t427.length) (c := co66) ?_).2.2; exact (by (with_reducible repeat (first | apply Kd.R_alloc | apply Kd.R_drewN | apply Kd.R_drew)); exact (Kd.R_mono (Kd.R_far (p := ⟨gb430, 1, none⟩) (Kd.R_far (p := ⟨gb430, 0, none⟩) (Kd.R_types HO429.out BK430.out (by decide)) (fun _ hk => hk.2) (.int .i64 t426)) (fun _ hk => hk.2) (.slice Ao66 t427.length co66)) (fun _ h_ => h_.1)))); (case side2 => exact (Kd.R_reads' HO429.out).2.1); (case side3 => refine (Kd.R_reads' (e := 5) (base := w.heap.size) (ok := fun k_ => (some k_ ≠ (.slice Ao29 t408.length co29 : Value).ownBlock ∧ some k_ ≠ (.slice Ao66 t427.length co66 : Value).ownBlock)) (n := t400.length) (c := co22) ?_).2.2; exact (by (with_reducible repeat (first | apply Kd.R_alloc | apply Kd.R_drewN | apply Kd.R_drew)); exact (Kd.R_mono (Kd.R_far (p := ⟨gb430, 1, none⟩) (Kd.R_far (p := ⟨gb430, 0, none⟩) (Kd.R_types HO_404001.out BK430.out (by decide)) (fun _ hk => hk.2) (.int .i64 t426)) (fun _ hk => hk.2) (.slice Ao66 t427.length co66)) (fun _ h_ => h_.1)))); (case side4 => exact (Kd.R_reads' HO_404001.out).2.1); rintro e w68 ⟨rfl, hb⟩; refine ⟨_, rfl, ?_⟩; have n0_ := Aside0.mk (Kd.R_below (by (with_reducible repeat (first | apply Kd.R_alloc | apply Kd.R_drewN | apply Kd.R_drew)); exact (Kd.R_mono (Kd.R_far (p := ⟨gb430, 1, none⟩) (Kd.R_far (p := ⟨gb430, 0, none⟩) (Kd.R_types HO_404001.out BK430.out (by decide)) (fun _ hk => hk.2) (.int .i64 t426)) (fun _ hk => hk.2) (.slice Ao66 t427.length co66)) (fun _ h_ => h_.1))) hb); have n1_ := Aside0.mk (Kd.R_below (by (with_reducible repeat (first | apply Kd.R_alloc | apply Kd.R_drewN | apply Kd.R_drew)); exact (Kd.R_mono (Kd.R_far (p := ⟨gb430, 1, none⟩) (Kd.R_far (p := ⟨gb430, 0, none⟩) (Kd.R_types HO_412001.out BK430.out (by decide)) (fun _ hk => hk.2) (.int .i64 t426)) (fun _ hk => hk.2) (.slice Ao66 t427.length co66)) (fun _ h_ => h_.1))) hb); have n2_ := Aside0.mk (Kd.S_below (by (with_reducible repeat (first | apply Kd.S_alloc | apply Kd.S_drewN | apply Kd.S_drew)); exact (Kd.S_mono (Kd.S_far (p := ⟨gb430, 1, none⟩) (Kd.S_far (p := ⟨gb430, 0, none⟩) (Kd.S_types HO425.out BK430.out (by decide)) (fun _ hk => hk.2) (.int .i64 t426)) (fun _ hk => hk.2) (.slice Ao66 t427.length co66)) (fun _ h_ => h_.1))) hb); have n3_ := Aside0.mk (Kd.R_below (by (with_reducible repeat (first | apply Kd.R_alloc | apply Kd.R_drewN | apply Kd.R_drew)); exact (Kd.R_mono (Kd.R_far (p := ⟨gb430, 1, none⟩) (Kd.R_far (p := ⟨gb430, 0, none⟩) (Kd.R_types HO429.out BK430.out (by decide)) (fun _ hk => hk.2) (.int .i64 t426)) (fun _ hk => hk.2) (.slice Ao66 t427.length co66)) (fun _ h_ => h_.1))) hb); have n4_ := Aside0.mk (blk_below (g := gb403) (o := .cells #[.int .i64 t399, .slice Ao22 t400.length co22] 26 (0, 0)) (by (with_reducible repeat (first | refine blk_drewN ?_ _ | refine blk_drew ?_ | refine blk_alloc ?_ _)); refine blk_far ?_ NB403_430.out _; (with_reducible repeat (first | refine blk_drewN ?_ _ | refine blk_drew ?_ | refine blk_alloc ?_ _)); refine blk_far ?_ NB403_430.out _; (with_reducible repeat (first | refine blk_drewN ?_ _ | refine blk_drew ?_ | refine blk_alloc ?_ _)); exact BK403.out) hb); have n5_ := Aside0.mk (blk_below (g := gb411) (o := .cells #[.int .i64 t407, .slice Ao29 t408.length co29] 26 (0, 0)) (by (with_reducible repeat (first | refine blk_drewN ?_ _ | refine blk_drew ?_ | refine blk_alloc ?_ _)); refine blk_far ?_ NB411_430.out _; (with_reducible repeat (first | refine blk_drewN ?_ _ | refine blk_drew ?_ | refine blk_alloc ?_ _)); refine blk_far ?_ NB411_430.out _; (with_reducible repeat (first | refine blk_drewN ?_ _ | refine blk_drew ?_ | refine blk_alloc ?_ _)); exact BK411.out) hb); have n6_ := Aside0.mk (blk_below (g := gb430) (o := .cells #[.int .i64 t426, .slice Ao66 t427.length co66] 26 (0, 0)) (by (with_reducible repeat (first | refine blk_drewN ?_ _ | refine blk_drew ?_ | refine blk_alloc ?_ _)); refine blk_put (cs := #[.int .i64 t426, .slice none 0 0]) ?_ 1 _ rfl; (with_reducible repeat (first | refine blk_drewN ?_ _ | refine blk_drew ?_ | refine blk_alloc ?_ _)); refine blk_put (cs := #[.int .i64 0, .slice none 0 0]) ?_ 0 _ rfl; (with_reducible repeat (first | refine blk_drewN ?_ _ | refine blk_drew ?_ | refine blk_alloc ?_ _)); exact BK430.out) hb); have n7_ := Aside0.mk (below_step (by repeat (first | (with_reducible first | exact HB.out | apply below_alloc | apply pw_below_drewN | apply below_drew1 | refine below_set ?_ GE403.out | refine below_set ?_ GE411.out | refine below_set ?_ GE430.out) | exact HB.out)) hb); clear HO_404001; clear HO_412001; clear HO425; clear HO429; clear BK403; clear BK411; clear BK430; clear HB; have HO_404001 := n0_; have HO_412001 := n1_; have HO425 := n2_; have HO429 := n3_; have BK403 := n4_; have BK411 := n5_; have BK430 := n6_; have HB := n7_; clear n0_ n1_ n2_ n3_ n4_ n5_ n6_ n7_; (try clear hb); (try clear hb2); (try clear hk); (try clear hi); have hcz69_0 : w68.cell? ⟨gb411, 0, none⟩ = some (.int .i64 t407) := (blk_cell BK411.out 0).trans rfl; have hcz69_1 : w68.cell? ⟨gb411, 1, none⟩ = some (.slice Ao29 t408.length co29) := (blk_cell BK411.out 1).trans rfl; have hfz69_0 := blk_frozen BK411.out 0; have hfz69_1 := blk_frozen BK411.out 1) | ((with_reducible refine gate_callee (f := 16) rfl ?_); refine goesL_ (some 63) rfl rfl Try.func16 (by kernel_rfl) rfl #[.agg #[.int .i64 t407, .slice Ao29 t421.length co29], .int .i64 1] rfl (by (try simp only [List.map_toArray, List.map_cons, List.map_nil]); first | done | (rw [show t421.length = t408.length from (Kd.R_reads' HO_412001.out).1.symm] <;> rfl) | rfl | (simp only [List.length_drop, List.length_take]; rfl)) ?_; (with_reducible refine (laws_heldBytesResult.calls kj14 t407 _ _ t421 1 t432 _ ?side1 ?side2 A51.out).mono ?_); (case side1 => exact C_up (Kd.R_reads' HO_412001.out).2.2); (case side2 => rw [show t421.length = t408.length from (Kd.R_reads' HO_412001.out).1.symm]; exact (Kd.R_reads' HO_412001.out).2.1); rintro e w70 ⟨rfl, hb⟩; refine ⟨_, rfl, ?_⟩; have n0_ := Aside0.mk (Kd.R_below (R_up HO_404001.out) hb); have n1_ := Aside0.mk (Kd.R_below (R_up HO_412001.out) hb); have n2_ := Aside0.mk (Kd.S_below (S_up HO425.out) hb); have n3_ := Aside0.mk (Kd.R_below (R_up HO429.out) hb); have n4_ := Aside0.mk (blk_below (g := gb403) (blk_up BK403.out) hb); have n5_ := Aside0.mk (blk_below (g := gb411) (blk_up BK411.out) hb); have n6_ := Aside0.mk (blk_below (g := gb430) (blk_up BK430.out) hb); have n7_ := Aside0.mk (below_step (by repeat (first | (with_reducible first | exact HB.out | apply below_alloc | apply pw_below_drewN | apply below_drew1 | refine below_set ?_ GE403.out | refine below_set ?_ GE411.out | refine below_set ?_ GE430.out) | exact HB.out)) hb); clear HO_404001; clear HO_412001; clear HO425; clear HO429; clear BK403; clear BK411; clear BK430; clear HB; have HO_404001 := n0_; have HO_412001 := n1_; have HO425 := n2_; have HO429 := n3_; have BK403 := n4_; have BK411 := n5_; have BK430 := n6_; have HB := n7_; clear n0_ n1_ n2_ n3_ n4_ n5_ n6_ n7_; (try clear hb); (try clear hb2); (try clear hk); (try clear hi)))
                  go_ret
                  exact ⟨by first | rfl | (simp [errW_none, errW_some] <;> rfl) | (simp [*, errW_none, errW_some] <;> rfl), by repeat (first | (with_reducible first | exact HB.out | apply below_alloc | apply pw_below_drewN | apply below_drew1 | refine below_set ?_ GE403.out | refine below_set ?_ GE411.out | refine below_set ?_ GE430.out) | exact HB.out)⟩
              · replace c50 := Bool.eq_false_iff.mpr c50
                subst c50
                (try rw [if_neg (show ¬ (false = true) by decide)] at H)
                exact absurd H (by simp)
     · replace c13 := Bool.eq_false_iff.mpr c13
       subst c13
       (try rw [if_neg (show ¬ (false = true) by decide)] at H)
       exact absurd H (by simp)
   · replace c10 := Bool.eq_false_iff.mpr c10
     subst c10
     (try rw [if_neg (show ¬ (false = true) by decide)] at H)
     exact absurd H (by simp)

end Go.Proofs.Ytehdbobpbcjmeaa.PFnExactPackOps

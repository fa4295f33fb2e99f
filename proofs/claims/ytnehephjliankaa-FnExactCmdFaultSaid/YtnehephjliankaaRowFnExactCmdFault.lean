/- The row of the law FnExactCmdFault, out of its pure statement and the contract of its call. Conditions: none beyond the row's own. -/
import Derived.Test.YtnehephjliankaaRows
import Derived.Test.YtnehephjliankaaPFnExactCmdFaultx15
import Derived.Test.YtnehephjliankaaPureFnExactCmdFault
import Derived.Test.YtnehephjliankaaVFnExactCmdFaultO
import Derived.WalkKit
import Derived.ProofKit
import Derived.OpenShut
import Derived.ShutString
import Derived.ChangeOld
import Derived.Below
import Derived.SizedLaws
namespace Go.Proofs.Ytnehephjliankaa.fnExactCmdFault
open Go.ChangeShapes Go.WideShapes Go.ChangeAt Go.RowKit Go.Proofs.Ytnehephjliankaa.PFnExactCmdFault Go.Proofs.YtnehephjliankaaW.PrintWords
open Go.ChangeMaps (open_string shut_string)
set_option linter.unusedVariables false
theorem own : ownKnob Try.prog.godebug = none := by kernel_rfl
theorem laidOut : laidOutB Try.prog = true := by kernel_rfl
theorem o9 {H : Type} (enc : TypeId × Value → H) (W : World) : O.Opens enc Try.prog W 9 Kd.string (fun x => x.size ≤ 140737488351232) := O.opens_string Try.underlying9
theorem o2 {H : Type} (enc : TypeId × Value → H) (W : World) : O.Opens enc Try.prog W 2 (Kd.int .i64) (fun x => (Lit.int .i64 x).wf = true) := O.opens_int Try.underlying2
theorem o102 {H : Type} (enc : TypeId × Value → H) (W : World) : O.Opens enc Try.prog W 102 k102 (fun x => ((Lit.int .i64 x.f0).wf = true ∧ (Lit.int .i64 x.f1).wf = true)) := O.opens_struct (fun x : S102 => (x.f0, x.f1)) (fun a => ⟨a.1, a.2⟩) (fun _ => rfl) Try.underlying102 (by kernel_rfl) (O.opensF_cons 0 rfl rfl (by kernel_rfl) (o2 enc W) (O.opensF_last 1 rfl rfl (by kernel_rfl) (o2 enc W)))
theorem o22 {H : Type} (enc : TypeId × Value → H) (W : World) : O.Opens enc Try.prog W 22 (Kd.slice 102 k102) (fun x => (x.length * 16 ≤ 140737488351232 ∧ ∀ x1_ ∈ x, ((Lit.int .i64 x1_.f0).wf = true ∧ (Lit.int .i64 x1_.f1).wf = true))) := O.opens_slice (B := 16) Try.underlying22 (by kernel_rfl) (by kernel_rfl) (o102 enc W)
theorem o5 {H : Type} (enc : TypeId × Value → H) (W : World) : O.Opens enc Try.prog W 5 (Kd.int .u8) (fun x => (Lit.int .u8 x).wf = true) := O.opens_int Try.underlying5
theorem o23 {H : Type} (enc : TypeId × Value → H) (W : World) : O.Opens enc Try.prog W 23 (Kd.slice 5 (Kd.int .u8)) (fun x => (x.length * 1 ≤ 140737488351232 ∧ ∀ x1_ ∈ x, (Lit.int .u8 x1_).wf = true)) := O.opens_slice (B := 1) Try.underlying23 (by kernel_rfl) (by kernel_rfl) (o5 enc W)
theorem o24 {H : Type} (enc : TypeId × Value → H) (W : World) : O.Opens enc Try.prog W 24 (Kd.slice 2 (Kd.int .i64)) (fun x => (x.length * 8 ≤ 140737488351232 ∧ ∀ x1_ ∈ x, (Lit.int .i64 x1_).wf = true)) := O.opens_slice (B := 8) Try.underlying24 (by kernel_rfl) (by kernel_rfl) (o2 enc W)
theorem o4 {H : Type} (enc : TypeId × Value → H) (W : World) : O.Opens enc Try.prog W 4 Kd.bool (fun x => True) := O.opens_bool Try.underlying4
theorem o96 {H : Type} (enc : TypeId × Value → H) (W : World) : O.Opens enc Try.prog W 96 k96 (fun x => ((Lit.int .i64 x.f0).wf = true ∧ (Lit.int .i64 x.f1).wf = true ∧ (x.f2.length * 8 ≤ 140737488351232 ∧ ∀ x1_ ∈ x.f2, (Lit.int .i64 x1_).wf = true) ∧ (x.f3.length * 16 ≤ 140737488351232 ∧ ∀ x1_ ∈ x.f3, ((Lit.int .i64 x1_.f0).wf = true ∧ (Lit.int .i64 x1_.f1).wf = true)) ∧ (Lit.int .i64 x.f4).wf = true ∧ (Lit.int .i64 x.f5).wf = true)) := O.opens_struct (fun x : S96 => (x.f0, x.f1, x.f2, x.f3, x.f4, x.f5)) (fun a => ⟨a.1, a.2.1, a.2.2.1, a.2.2.2.1, a.2.2.2.2.1, a.2.2.2.2.2⟩) (fun _ => rfl) Try.underlying96 (by kernel_rfl) (O.opensF_cons 0 rfl rfl (by kernel_rfl) (o2 enc W) (O.opensF_cons 1 rfl rfl (by kernel_rfl) (o2 enc W) (O.opensF_cons 2 rfl rfl (by kernel_rfl) (o24 enc W) (O.opensF_cons 3 rfl rfl (by kernel_rfl) (o22 enc W) (O.opensF_cons 4 rfl rfl (by kernel_rfl) (o2 enc W) (O.opensF_last 5 rfl rfl (by kernel_rfl) (o2 enc W)))))))
theorem o25 {H : Type} (enc : TypeId × Value → H) (W : World) : O.Opens enc Try.prog W 25 (Kd.slice 96 k96) (fun x => (x.length * 80 ≤ 140737488351232 ∧ ∀ x1_ ∈ x, ((Lit.int .i64 x1_.f0).wf = true ∧ (Lit.int .i64 x1_.f1).wf = true ∧ (x1_.f2.length * 8 ≤ 140737488351232 ∧ ∀ x2_ ∈ x1_.f2, (Lit.int .i64 x2_).wf = true) ∧ (x1_.f3.length * 16 ≤ 140737488351232 ∧ ∀ x2_ ∈ x1_.f3, ((Lit.int .i64 x2_.f0).wf = true ∧ (Lit.int .i64 x2_.f1).wf = true)) ∧ (Lit.int .i64 x1_.f4).wf = true ∧ (Lit.int .i64 x1_.f5).wf = true))) := O.opens_slice (B := 80) Try.underlying25 (by kernel_rfl) (by kernel_rfl) (o96 enc W)
set_option maxRecDepth 100000 in
theorem lifted (os : Os) (started : os.Started) (H : Type) (enc : TypeId × Value → H) :
    ReturnsInHanded {} Try.checked os 3 .any (Rows.fnExactCmdFaultSpec.pre6 enc Try.prog Try.f3 Rows.fnExactCmdFaultRow.domain false) (Rows.fnExactCmdFaultSpec.post enc Try.prog Try.f3 false true false false) := by
  refine returnsInHanded_of_change_sized (C := Try.checked) own started (by kernel_rfl) Try.func3
    (ChangeSpec.witness6 (enc := enc) (C := Try.checked) false ⟨#[], #[.agg #[.string ByteArray.empty, .int .i64 0, .string ByteArray.empty, .slice none 0 0, .int .i64 0, .int .i64 0, .int .i64 0, .slice none 0 0, .int .i64 0, .slice none 0 0, .int .i64 0, .bool false, .slice none 0 0, .int .i64 0]], []⟩ 8 (by kernel_rfl) (by kernel_rfl) (by kernel_rfl) (by kernel_rfl)) ?_
  intro W base args ds gs before hval0 hW hcnd hsz0 _
  have hsz : (DataW.weightsEach Try.prog (Try.f3.params.toList ++ Rows.fnExactCmdFaultSpec.plain.varTypes Try.prog) (ds ++ gs)).all (· ≤ reachBytes) = true := hsz0
  have hval : ∀ (j : Nat) t v, Try.f3.params[j]? = some t → args[j]? = some v → Value.okWide Try.prog W .any base t v := hval0
  have hW' := hW
  obtain ⟨p, q, hA0, hV, rfl, hfz, hnd⟩ := hW
  have hA : DataW.TrodAll enc Try.prog W 0 (fun _ => true) true Try.f3.params.toList args.toList ds p := hA0
  rw [Try.params3] at hA hval hsz
  obtain ⟨v0, vs0, d0, ds0, p0, q0, hargs, rfl, rfl, h0, r0⟩ := trodAll_cons hA
  obtain ⟨rfl, rfl, rfl⟩ := trodAll_nil r0
  obtain rfl : args = #[v0] := by cases args; simp_all
  obtain ⟨rfl, rfl⟩ := trodVars_none hV
  obtain ⟨cs0, rfl⟩ := O.okWide_struct Try.underlying27 (hval 0 27 v0 rfl rfl)
  have k0 := h0
  have lt0 : ∀ x ∈ p0, x.block < W.heap.size := by obtain ⟨m, hm⟩ := k0; exact DataW.trod_lt m _ _ _ hm
  obtain ⟨⟨y0_0, y0_1, y0_2, y0_3, y0_4, y0_5, y0_6, y0_7, y0_8, y0_9, y0_10, y0_11, y0_12, y0_13⟩, ⟨e0_0, f0_0, hcs0, h0_0, ⟨e0_1, f0_1, rfl, h0_1, ⟨e0_2, f0_2, rfl, h0_2, ⟨e0_3, f0_3, rfl, h0_3, ⟨e0_4, f0_4, rfl, h0_4, ⟨e0_5, f0_5, rfl, h0_5, ⟨e0_6, f0_6, rfl, h0_6, ⟨e0_7, f0_7, rfl, h0_7, ⟨e0_8, f0_8, rfl, h0_8, ⟨e0_9, f0_9, rfl, h0_9, ⟨e0_10, f0_10, rfl, h0_10, ⟨e0_11, f0_11, rfl, h0_11, ⟨e0_12, f0_12, rfl, h0_12, h0_13⟩⟩⟩⟩⟩⟩⟩⟩⟩⟩⟩⟩⟩, ⟨w0_0, w0_1, w0_2, w0_3, w0_4, w0_5, w0_6, w0_7, w0_8, w0_9, w0_10, w0_11, w0_12, w0_13⟩⟩ := O.opens_arg (j := 0) (O.opens_structP Try.underlying27 (by kernel_rfl) (O.opensF_cons 0 rfl rfl (by kernel_rfl) (o9 enc W) (O.opensF_cons 1 rfl rfl (by kernel_rfl) (o2 enc W) (O.opensF_cons 2 rfl rfl (by kernel_rfl) (o9 enc W) (O.opensF_cons 3 rfl rfl (by kernel_rfl) (o22 enc W) (O.opensF_cons 4 rfl rfl (by kernel_rfl) (o2 enc W) (O.opensF_cons 5 rfl rfl (by kernel_rfl) (o2 enc W) (O.opensF_cons 6 rfl rfl (by kernel_rfl) (o2 enc W) (O.opensF_cons 7 rfl rfl (by kernel_rfl) (o23 enc W) (O.opensF_cons 8 rfl rfl (by kernel_rfl) (o2 enc W) (O.opensF_cons 9 rfl rfl (by kernel_rfl) (o24 enc W) (O.opensF_cons 10 rfl rfl (by kernel_rfl) (o2 enc W) (O.opensF_cons 11 rfl rfl (by kernel_rfl) (o4 enc W) (O.opensF_cons 12 rfl rfl (by kernel_rfl) (o25 enc W) (O.opensF_last 13 rfl rfl (by kernel_rfl) (o2 enc W)))))))))))))))) hsz rfl rfl h0
  obtain rfl := h0_0
  obtain rfl := h0_1
  obtain rfl := h0_2
  obtain ⟨A0_3, c0_3, rfl, hl0_3, hr0_3⟩ := h0_3
  obtain rfl := h0_4
  obtain rfl := h0_5
  obtain rfl := h0_6
  obtain ⟨A0_7, c0_7, rfl, hl0_7, hr0_7⟩ := h0_7
  obtain rfl := h0_8
  obtain ⟨A0_9, c0_9, rfl, hl0_9, hr0_9⟩ := h0_9
  obtain rfl := h0_10
  obtain rfl := h0_11
  obtain ⟨A0_12, c0_12, rfl, hl0_12, hr0_12⟩ := h0_12
  obtain rfl := h0_13
  obtain rfl : cs0 = #[.string y0_0, .int .i64 y0_1, .string y0_2, .slice A0_3 y0_3.length c0_3, .int .i64 y0_4, .int .i64 y0_5, .int .i64 y0_6, .slice A0_7 y0_7.length c0_7, .int .i64 y0_8, .slice A0_9 y0_9.length c0_9, .int .i64 y0_10, .bool y0_11, .slice A0_12 y0_12.length c0_12, .int .i64 y0_13] := O.agg_of hcs0
  clear hA0 hval0 hsz0 hsz
  obtain ⟨k, hP⟩ := Pure.FnExactCmdFault y0_0 y0_1 y0_2 y0_3 y0_4 y0_5 y0_6 y0_7 y0_8 y0_9 y0_10 y0_11 y0_12 y0_13 w0_0 w0_1 w0_2 w0_3 w0_4 w0_5 w0_6 w0_7 w0_8 w0_9 w0_10 w0_12 w0_13
  refine (laws_FnExactCmdFault.calls k y0_0 y0_1 y0_2 _ _ y0_3 y0_4 y0_5 y0_6 _ _ y0_7 y0_8 _ _ y0_9 y0_10 y0_11 _ _ y0_12 y0_13 true W hr0_3 hl0_3 hr0_7 hl0_7 hr0_9 hl0_9 hr0_12 hl0_12 hP).mono fun e W' ⟨he, bel⟩ => ?_
  subst he
  exact ⟨_, rfl, _, _, _, [], _, [], hW', trodAll_mk1 (shut_bool Try.underlying4 _), (trodAll_cons_mk (Below.trod laidOut (by kernel_rfl) (of_decide_eq_true (by kernel_rfl)) k0 bel lt0) trodAll_mk0), rfl, bel.frame _, fun h => by cases h⟩
theorem over : Rows.fnExactCmdFaultRow.holds Try.pinned (OpenSpec.ofChange Rows.fnExactCmdFaultSpec) :=
  OpenClaim.holds_of_wide 3 Try.f3 rfl rfl rfl rfl rfl rfl rfl ⟨rfl, rfl, rfl, rfl, rfl⟩ rfl rfl rfl rfl rfl (by kernel_rfl) Try.func3 (by kernel_rfl)
    (of_decide_eq_true (by kernel_rfl)) (by unfold Func.isWrapper; first | (rw [if_pos (by decide +kernel)]; kernel_rfl) | (rw [if_neg (by decide +kernel)]; exact ⟨rfl, rfl⟩))
    (fun os started H enc _ => lifted os started H enc)
theorem proved : Rows.FnExactCmdFaultSaid := over
end Go.Proofs.Ytnehephjliankaa.fnExactCmdFault
namespace Go.Proofs.Ytnehephjliankaa
/-- The row, under a short name, for the claim. -/
theorem fnExactCmdFault_holds : Rows.FnExactCmdFaultSaid := fnExactCmdFault.proved
end Go.Proofs.Ytnehephjliankaa

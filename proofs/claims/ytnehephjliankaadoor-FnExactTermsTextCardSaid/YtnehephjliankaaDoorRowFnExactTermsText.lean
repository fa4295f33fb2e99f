/- The row of the law FnExactTermsText, out of its pure statement and the contract of its call. Conditions: none beyond the row's own. -/
import Derived.Test.YtnehephjliankaaDoorRows
import Derived.Test.YtnehephjliankaaDoorPFnExactTermsTextx14
import Derived.Test.YtnehephjliankaaDoorPureFnExactTermsText
import Derived.Test.YtnehephjliankaaDoorVFnExactTermsTextO
import Derived.WalkKit
import Derived.ProofKit
import Derived.OpenShut
import Derived.ShutString
import Derived.ChangeOld
import Derived.Below
import Derived.SizedLaws
import Derived.SevenTiedAt
import Derived.Test.YtnehephjliankaaDoorCards
import Derived.Test.YtnehephjliankaaDoorTie
import Derived.Deep.DeepHandedRow
import Derived.Deep.DeepWitnessRowRef
import Derived.Lay
import Derived.MakeChecks
namespace Go.Proofs.YtnehephjliankaaDoor.fnExactTermsText
open Go.ChangeShapes Go.WideShapes Go.ChangeAt Go.RowKit Go.Proofs.YtnehephjliankaaDoor.PFnExactTermsText Go.Proofs.YtnehephjliankaaDoorW.PrintWords
open Go.ChangeMaps (open_string shut_string)
set_option linter.unusedVariables false
theorem own : ownKnob Tryd.prog.godebug = none := by kernel_rfl
theorem laidOut : laidOutB Tryd.prog = true := by kernel_rfl
theorem o2 {H : Type} (enc : TypeId × Value → H) (W : World) : O.Opens enc Tryd.prog W 2 (Kd.int .i64) (fun x => (Lit.int .i64 x).wf = true) := O.opens_int Tryd.underlying2
theorem o48 {H : Type} (enc : TypeId × Value → H) (W : World) : O.Opens enc Tryd.prog W 48 (Kd.slice 2 (Kd.int .i64)) (fun x => (x.length * 8 ≤ 140737488351232 ∧ ∀ x1_ ∈ x, (Lit.int .i64 x1_).wf = true)) := O.opens_slice (B := 8) Tryd.underlying48 (by kernel_rfl) (by kernel_rfl) (o2 enc W)
theorem o61 {H : Type} (enc : TypeId × Value → H) (W : World) : O.Opens enc Tryd.prog W 61 k61 (fun x => ((Lit.int .i64 x.f0).wf = true ∧ (Lit.int .i64 x.f1).wf = true)) := O.opens_struct (fun x : S61 => (x.f0, x.f1)) (fun a => ⟨a.1, a.2⟩) (fun _ => rfl) Tryd.underlying61 (by kernel_rfl) (O.opensF_cons 0 rfl rfl (by kernel_rfl) (o2 enc W) (O.opensF_last 1 rfl rfl (by kernel_rfl) (o2 enc W)))
theorem o22 {H : Type} (enc : TypeId × Value → H) (W : World) : O.Opens enc Tryd.prog W 22 (Kd.slice 61 k61) (fun x => (x.length * 16 ≤ 140737488351232 ∧ ∀ x1_ ∈ x, ((Lit.int .i64 x1_.f0).wf = true ∧ (Lit.int .i64 x1_.f1).wf = true))) := O.opens_slice (B := 16) Tryd.underlying22 (by kernel_rfl) (by kernel_rfl) (o61 enc W)
theorem o68 {H : Type} (enc : TypeId × Value → H) (W : World) : O.Opens enc Tryd.prog W 68 k68 (fun x => ((Lit.int .i64 x.f0).wf = true ∧ (Lit.int .i64 x.f1).wf = true ∧ (x.f2.length * 8 ≤ 140737488351232 ∧ ∀ x1_ ∈ x.f2, (Lit.int .i64 x1_).wf = true) ∧ (x.f3.length * 16 ≤ 140737488351232 ∧ ∀ x1_ ∈ x.f3, ((Lit.int .i64 x1_.f0).wf = true ∧ (Lit.int .i64 x1_.f1).wf = true)) ∧ (Lit.int .i64 x.f4).wf = true ∧ (Lit.int .i64 x.f5).wf = true)) := O.opens_struct (fun x : S68 => (x.f0, x.f1, x.f2, x.f3, x.f4, x.f5)) (fun a => ⟨a.1, a.2.1, a.2.2.1, a.2.2.2.1, a.2.2.2.2.1, a.2.2.2.2.2⟩) (fun _ => rfl) Tryd.underlying68 (by kernel_rfl) (O.opensF_cons 0 rfl rfl (by kernel_rfl) (o2 enc W) (O.opensF_cons 1 rfl rfl (by kernel_rfl) (o2 enc W) (O.opensF_cons 2 rfl rfl (by kernel_rfl) (o48 enc W) (O.opensF_cons 3 rfl rfl (by kernel_rfl) (o22 enc W) (O.opensF_cons 4 rfl rfl (by kernel_rfl) (o2 enc W) (O.opensF_last 5 rfl rfl (by kernel_rfl) (o2 enc W)))))))
theorem o38 {H : Type} (enc : TypeId × Value → H) (W : World) : O.Opens enc Tryd.prog W 38 (Kd.slice 68 k68) (fun x => (x.length * 80 ≤ 140737488351232 ∧ ∀ x1_ ∈ x, ((Lit.int .i64 x1_.f0).wf = true ∧ (Lit.int .i64 x1_.f1).wf = true ∧ (x1_.f2.length * 8 ≤ 140737488351232 ∧ ∀ x2_ ∈ x1_.f2, (Lit.int .i64 x2_).wf = true) ∧ (x1_.f3.length * 16 ≤ 140737488351232 ∧ ∀ x2_ ∈ x1_.f3, ((Lit.int .i64 x2_.f0).wf = true ∧ (Lit.int .i64 x2_.f1).wf = true)) ∧ (Lit.int .i64 x1_.f4).wf = true ∧ (Lit.int .i64 x1_.f5).wf = true))) := O.opens_slice (B := 80) Tryd.underlying38 (by kernel_rfl) (by kernel_rfl) (o68 enc W)
theorem laid_met (os : Os) (args : Array Value) : laidMetH Tryd.prog Rows.fnExactTermsTextRow.laid ((World.laidAll Tryd.prog os Rows.fnExactTermsTextRow.laid).forCall (fun _ _ => 0) ⟨#[], args, []⟩).memory := by
  rw [MakeChecks.laidMetH_plain _ _ _ (by kernel_rfl)]
  exact laidMet_laidAll _ (by kernel_rfl) (by kernel_rfl)
theorem witness_row (os : Os) {H : Type} (enc : TypeId × Value → H) : (OpenSpec.ofChange Rows.fnExactTermsTextSpec).preRow enc Tryd.prog Tryd.f5 Rows.fnExactTermsTextRow.domain false Rows.fnExactTermsTextRow.laid ((World.laidAll Tryd.prog os Rows.fnExactTermsTextRow.laid).forCall (fun _ _ => 0) ⟨#[], #[.slice none 0 0], []⟩).memory #[.slice none 0 0] := by
  have hw : (DataW.whole enc Tryd.prog ((World.laidAll Tryd.prog os Rows.fnExactTermsTextRow.laid).forCall (fun _ _ => 0) ⟨#[], #[.slice none 0 0], []⟩).memory Tryd.f5.params.toList (OpenSpec.ofChange Rows.fnExactTermsTextSpec).vars false #[.slice none 0 0].toList 8).map (fun x => (x.1, x.2.1)) = some ([.nil], []) := by kernel_rfl
  obtain ⟨⟨x1, x2, x3⟩, hx, hx1⟩ := Option.map_eq_some_iff.1 hw
  simp only [Prod.mk.injEq] at hx1
  obtain ⟨rfl, rfl⟩ := hx1
  exact OpenSpec.preRow_of_cond 8 hx (by kernel_rfl) (fun k hk => by cases hk) (by kernel_rfl) (laid_met os _)
set_option maxRecDepth 100000 in
set_option maxHeartbeats 2000000 in
theorem lifted (os : Os) (started : os.Started) (H : Type) (enc : TypeId × Value → H) (F : Stop.Interp) :
    ReturnsInHanded {} Tryd.checked os 5 .any ((OpenSpec.ofChange Rows.fnExactTermsTextSpec).preRow enc Tryd.prog Tryd.f5 Rows.fnExactTermsTextRow.domain false Rows.fnExactTermsTextRow.laid) (((OpenSpec.ofChange Rows.fnExactTermsTextSpec).at F).post enc Tryd.prog Tryd.f5 false true false false) := by
  refine returnsInHanded_of_row (C := Tryd.checked) (s := (OpenSpec.ofChange Rows.fnExactTermsTextSpec)) own started (by kernel_rfl) Tryd.func5
    (witness_row_atRef (enc := enc) (C := Tryd.checked) false (World.laidAll Tryd.prog os Rows.fnExactTermsTextRow.laid) #[.slice none 0 0] (World.laidAll_os _ _ _) (by kernel_rfl) (by kernel_rfl) (by kernel_rfl) (witness_row os enc)) ?_
  intro W base args ds gs before hval0 hW hcnd _ hsz0 hL hsh _
  have hsz : (DataW.weightsEach Tryd.prog (Tryd.f5.params.toList ++ Rows.fnExactTermsTextSpec.plain.varTypes Tryd.prog) (ds ++ gs)).all (· ≤ reachBytes) = true := hsz0
  have hval : ∀ (j : Nat) t v, Tryd.f5.params[j]? = some t → args[j]? = some v → Value.okWide Tryd.prog W .any base t v := hval0
  have hW' := hW
  obtain ⟨p, q, hA0, hV, rfl, hfz, hnd⟩ := hW
  have hA : DataW.TrodAll enc Tryd.prog W 0 (fun _ => true) true Tryd.f5.params.toList args.toList ds p := hA0
  rw [Tryd.params5] at hA hval hsz
  obtain ⟨v0, vs0, d0, ds0, p0, q0, hargs, rfl, rfl, h0, r0⟩ := trodAll_cons hA
  obtain ⟨rfl, rfl, rfl⟩ := trodAll_nil r0
  obtain rfl : args = #[v0] := by cases args; simp_all
  obtain ⟨rfl, rfl⟩ := trodVars_none hV
  obtain ⟨b0, len0, cap0, rfl⟩ := okWide_slice Tryd.underlying38 (hval 0 38 v0 rfl rfl)
  have k0 := h0
  have lt0 : ∀ x ∈ p0, x.block < W.heap.size := by obtain ⟨m, hm⟩ := k0; exact DataW.trod_lt m _ _ _ hm
  obtain ⟨l0, ⟨A0, c0, hc0, hl0, hr0⟩, w0⟩ := O.opens_arg (j := 0) (o38 enc W) hsz rfl rfl h0
  simp only [Value.cells, List.cons.injEq, Value.slice.injEq, and_true] at hc0
  obtain ⟨rfl, rfl, rfl⟩ := hc0
  clear hA0 hval0 hsz0 hsz
  obtain ⟨k, hP⟩ := Pure.FnExactTermsText l0 w0
  refine (laws_FnExactTermsText.calls k _ _ l0 true W hr0 hl0 (GL_laid hL (by kernel_rfl) (by kernel_rfl)) hP).mono fun e W' ⟨he, bel⟩ => ?_
  subst he
  exact ⟨_, rfl, _, _, _, [], _, [], hW', trodAll_mk1 (shut_bool Tryd.underlying4 _), (trodAll_cons_mk (Below.trod laidOut (by kernel_rfl) (of_decide_eq_true (by kernel_rfl)) k0 bel lt0) trodAll_mk0), rfl, bel.frame _, fun h => by cases h⟩
theorem over : Rows.fnExactTermsTextRow.holds Tryd.pinned (OpenSpec.ofChange Rows.fnExactTermsTextSpec) :=
  OpenClaim.holds_of_cond 5 Tryd.f5 rfl rfl rfl rfl rfl rfl rfl ⟨rfl, rfl, rfl, rfl, rfl⟩ rfl rfl rfl rfl rfl (by kernel_rfl) Tryd.func5 (by kernel_rfl)
    (of_decide_eq_true (by kernel_rfl)) (by unfold Func.isWrapper; first | (rw [if_pos (by decide +kernel)]; kernel_rfl) | (rw [if_neg (by decide +kernel)]; exact ⟨rfl, rfl⟩))
    (fun os started H enc _ F0 => by rw [OpenClaim.pre_eq_preRow]; exact lifted os started H enc F0)
theorem proved : Rows.FnExactTermsTextCardSaid :=
  Claim7.holds_tied_plain_at .later [] [.data, .data, .data] true (true, "407d5f6416631fdacbda775ea6d9e335d53db2f485488ccc991fb393358226df") true
    over (fun _ h => by cases h) (by kernel_rfl) (fun _ h => by cases h) fnExactTermsText_row_tie rfl ⟨rfl, rfl⟩ (by kernel_rfl) rfl
    (fun f fn hf hfn => by
      obtain rfl : f = 5 := Option.some.inj ((show Tryd.prog.funcNamed "loop.example/g00447/laws.FnExactTermsText" = some 5 by kernel_rfl).symm.trans hf) |>.symm
      obtain rfl : fn = Tryd.f5 := (Option.some.inj (Tryd.func5.symm.trans hfn)).symm
      exact ⟨by kernel_rfl, fun j t ht => by
        rw [Tryd.params5] at ht
        have h3 : t = 38 := by
          rcases j with _ | j
          · simpa using ht.symm
          · simp at ht
        subst h3
        exact (show Tryd.prog.wantsStandIn 38 = false by kernel_rfl)⟩)
    (by kernel_rfl)
end Go.Proofs.YtnehephjliankaaDoor.fnExactTermsText
namespace Go.Proofs.YtnehephjliankaaDoor
/-- The row, under a short name, for the claim. -/
theorem fnExactTermsText_holds : Rows.FnExactTermsTextCardSaid := fnExactTermsText.proved
end Go.Proofs.YtnehephjliankaaDoor

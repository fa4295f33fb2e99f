/- The row of the law FnExactExpandSet, out of its pure statement and the contract of its call. Conditions: none beyond the row's own. -/
import Derived.Test.YtcliocbkoijblaaRows
import Derived.Test.YtcliocbkoijblaaPFnExactExpandSetx4
import Derived.Test.YtcliocbkoijblaaPureFnExactExpandSet
import Derived.Test.YtcliocbkoijblaaO
import Derived.WalkKit
import Derived.ProofKit
import Derived.OpenShut
import Derived.ShutString
import Derived.ChangeOld
import Derived.Below
import Derived.SizedLaws
namespace Go.Proofs.Ytcliocbkoijblaa.fnExactExpandSet
open Go.ChangeShapes Go.WideShapes Go.ChangeAt Go.RowKit Go.Proofs.Ytcliocbkoijblaa.PFnExactExpandSet Go.Proofs.YtcliocbkoijblaaW.PrintWords
open Go.ChangeMaps (open_string shut_string)
set_option linter.unusedVariables false
theorem own : ownKnob Try.prog.godebug = none := by kernel_rfl
theorem laidOut : laidOutB Try.prog = true := by kernel_rfl
theorem o2 {H : Type} (enc : TypeId × Value → H) (W : World) : O.Opens enc Try.prog W 2 (Kd.int .i64) (fun x => (Lit.int .i64 x).wf = true) := O.opens_int Try.underlying2
theorem o83 {H : Type} (enc : TypeId × Value → H) (W : World) : O.Opens enc Try.prog W 83 k83 (fun x => ((Lit.int .i64 x.f0).wf = true ∧ (Lit.int .i64 x.f1).wf = true)) := O.opens_struct (fun x : S83 => (x.f0, x.f1)) (fun a => ⟨a.1, a.2⟩) (fun _ => rfl) Try.underlying83 (by kernel_rfl) (O.opensF_cons 0 rfl rfl (by kernel_rfl) (o2 enc W) (O.opensF_last 1 rfl rfl (by kernel_rfl) (o2 enc W)))
theorem o27 {H : Type} (enc : TypeId × Value → H) (W : World) : O.Opens enc Try.prog W 27 (Kd.slice 83 k83) (fun x => (x.length * 16 ≤ 140737488351232 ∧ ∀ x1_ ∈ x, ((Lit.int .i64 x1_.f0).wf = true ∧ (Lit.int .i64 x1_.f1).wf = true))) := O.opens_slice (B := 16) Try.underlying27 (by kernel_rfl) (by kernel_rfl) (o83 enc W)
set_option maxRecDepth 100000 in
theorem lifted (os : Os) (started : os.Started) (H : Type) (enc : TypeId × Value → H) :
    ReturnsInHanded {} Try.checked os 13 .any (Rows.fnExactExpandSetSpec.pre6 enc Try.prog Try.f13 Rows.fnExactExpandSetRow.domain false) (Rows.fnExactExpandSetSpec.post enc Try.prog Try.f13 false true false false) := by
  refine returnsInHanded_of_change_sized (C := Try.checked) own started (by kernel_rfl) Try.func13
    (ChangeSpec.witness6 (enc := enc) (C := Try.checked) false ⟨#[], #[.slice none 0 0, .int .i64 0], []⟩ 8 (by kernel_rfl) (by kernel_rfl) (by kernel_rfl) (by kernel_rfl)) ?_
  intro W base args ds gs before hval0 hW hcnd hsz0 _
  have hsz : (DataW.weightsEach Try.prog (Try.f13.params.toList ++ Rows.fnExactExpandSetSpec.plain.varTypes Try.prog) (ds ++ gs)).all (· ≤ reachBytes) = true := hsz0
  have hval : ∀ (j : Nat) t v, Try.f13.params[j]? = some t → args[j]? = some v → Value.okWide Try.prog W .any base t v := hval0
  have hW' := hW
  obtain ⟨p, q, hA0, hV, rfl, hfz, hnd⟩ := hW
  have hA : DataW.TrodAll enc Try.prog W 0 (fun _ => true) true Try.f13.params.toList args.toList ds p := hA0
  rw [Try.params13] at hA hval hsz
  obtain ⟨v0, vs0, d0, ds0, p0, q0, hargs, rfl, rfl, h0, r0⟩ := trodAll_cons hA
  obtain ⟨v1, vs1, d1, ds1, p1, q1, rfl, rfl, rfl, h1, r1⟩ := trodAll_cons r0
  obtain ⟨rfl, rfl, rfl⟩ := trodAll_nil r1
  obtain rfl : args = #[v0, v1] := by cases args; simp_all
  obtain ⟨rfl, rfl⟩ := trodVars_none hV
  obtain ⟨b0, len0, cap0, rfl⟩ := okWide_slice Try.underlying27 (hval 0 27 v0 rfl rfl)
  have k0 := h0
  have lt0 : ∀ x ∈ p0, x.block < W.heap.size := by obtain ⟨m, hm⟩ := k0; exact DataW.trod_lt m _ _ _ hm
  obtain ⟨l0, ⟨A0, c0, hc0, hl0, hr0⟩, w0⟩ := O.opens_arg (j := 0) (o27 enc W) hsz rfl rfl h0
  simp only [Value.cells, List.cons.injEq, Value.slice.injEq, and_true] at hc0
  obtain ⟨rfl, rfl, rfl⟩ := hc0
  obtain ⟨a1, rfl, rfl, rfl, w1⟩ := open_int Try.underlying2 (hval 1 2 v1 rfl rfl) h1
  clear hA0 hval0 hsz0 hsz
  obtain ⟨k, hP⟩ := Pure.FnExactExpandSet l0 a1 w0 w1
  refine (laws_FnExactExpandSet.calls k _ _ l0 a1 true W hr0 hl0 hP).mono fun e W' ⟨he, bel⟩ => ?_
  subst he
  exact ⟨_, rfl, _, _, _, [], _, [], hW', trodAll_mk1 (shut_bool Try.underlying4 _), (trodAll_cons_mk (Below.trod laidOut (by kernel_rfl) (of_decide_eq_true (by kernel_rfl)) k0 bel lt0) (trodAll_cons_mk (shut_int Try.underlying2 w1) trodAll_mk0)), rfl, bel.frame _, fun h => by cases h⟩
theorem over : Rows.fnExactExpandSetRow.holds Try.pinned (OpenSpec.ofChange Rows.fnExactExpandSetSpec) :=
  OpenClaim.holds_of_wide 13 Try.f13 rfl rfl rfl rfl rfl rfl rfl ⟨rfl, rfl, rfl, rfl, rfl⟩ rfl rfl rfl rfl rfl (by kernel_rfl) Try.func13 (by kernel_rfl)
    (of_decide_eq_true (by kernel_rfl)) (by unfold Func.isWrapper; first | (rw [if_pos (by decide +kernel)]; kernel_rfl) | (rw [if_neg (by decide +kernel)]; exact ⟨rfl, rfl⟩))
    (fun os started H enc _ => lifted os started H enc)
theorem proved : Rows.FnExactExpandSetSaid := over
end Go.Proofs.Ytcliocbkoijblaa.fnExactExpandSet
namespace Go.Proofs.Ytcliocbkoijblaa
/-- The row, under a short name, for the claim. -/
theorem fnExactExpandSet_holds : Rows.FnExactExpandSetSaid := fnExactExpandSet.proved
end Go.Proofs.Ytcliocbkoijblaa

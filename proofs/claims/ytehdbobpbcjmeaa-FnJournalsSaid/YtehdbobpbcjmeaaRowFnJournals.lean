/- The row of the law FnJournals, out of its pure statement and the contract of its call. Conditions: none beyond the row's own. -/
import Derived.Test.YtehdbobpbcjmeaaRows
import Derived.Test.YtehdbobpbcjmeaaPFnJournalsx16
import Derived.Test.YtehdbobpbcjmeaaPureFnJournals
import Derived.Test.YtehdbobpbcjmeaaVFnJournalsO
import Derived.WalkKit
import Derived.ProofKit
import Derived.OpenShut
import Derived.ShutString
import Derived.ChangeOld
import Derived.Below
import Derived.SizedLaws
namespace Go.Proofs.Ytehdbobpbcjmeaa.fnJournals
open Go.ChangeShapes Go.WideShapes Go.ChangeAt Go.RowKit Go.Proofs.Ytehdbobpbcjmeaa.PFnJournals Go.Proofs.YtehdbobpbcjmeaaW.PrintWords
open Go.ChangeMaps (open_string shut_string)
set_option linter.unusedVariables false
theorem own : ownKnob Try.prog.godebug = none := by kernel_rfl
theorem laidOut : laidOutB Try.prog = true := by kernel_rfl
theorem o5 {H : Type} (enc : TypeId × Value → H) (W : World) : O.Opens enc Try.prog W 5 (Kd.int .u8) (fun x => (Lit.int .u8 x).wf = true) := O.opens_int Try.underlying5
theorem o24 {H : Type} (enc : TypeId × Value → H) (W : World) : O.Opens enc Try.prog W 24 (Kd.slice 5 (Kd.int .u8)) (fun x => (x.length * 1 ≤ 140737488351232 ∧ ∀ x1_ ∈ x, (Lit.int .u8 x1_).wf = true)) := O.opens_slice (B := 1) Try.underlying24 (by kernel_rfl) (by kernel_rfl) (o5 enc W)
set_option maxRecDepth 100000 in
theorem lifted (os : Os) (started : os.Started) (H : Type) (enc : TypeId × Value → H) :
    ReturnsInHanded {} Try.checked os 7 .any (Rows.fnJournalsSpec.pre6 enc Try.prog Try.f7 Rows.fnJournalsRow.domain false) (Rows.fnJournalsSpec.post enc Try.prog Try.f7 false true false false) := by
  refine returnsInHanded_of_change_sized (C := Try.checked) own started (by kernel_rfl) Try.func7
    (ChangeSpec.witness6 (enc := enc) (C := Try.checked) false ⟨#[], #[.slice none 0 0], []⟩ 8 (by kernel_rfl) (by kernel_rfl) (by kernel_rfl) (by kernel_rfl)) ?_
  intro W base args ds gs before hval0 hW hcnd hsz0 _
  have hsz : (DataW.weightsEach Try.prog (Try.f7.params.toList ++ Rows.fnJournalsSpec.plain.varTypes Try.prog) (ds ++ gs)).all (· ≤ reachBytes) = true := hsz0
  have hval : ∀ (j : Nat) t v, Try.f7.params[j]? = some t → args[j]? = some v → Value.okWide Try.prog W .any base t v := hval0
  have hW' := hW
  obtain ⟨p, q, hA0, hV, rfl, hfz, hnd⟩ := hW
  have hA : DataW.TrodAll enc Try.prog W 0 (fun _ => true) true Try.f7.params.toList args.toList ds p := hA0
  rw [Try.params7] at hA hval hsz
  obtain ⟨v0, vs0, d0, ds0, p0, q0, hargs, rfl, rfl, h0, r0⟩ := trodAll_cons hA
  obtain ⟨rfl, rfl, rfl⟩ := trodAll_nil r0
  obtain rfl : args = #[v0] := by cases args; simp_all
  obtain ⟨rfl, rfl⟩ := trodVars_none hV
  obtain ⟨b0, len0, cap0, rfl⟩ := okWide_slice Try.underlying24 (hval 0 24 v0 rfl rfl)
  have k0 := h0
  have lt0 : ∀ x ∈ p0, x.block < W.heap.size := by obtain ⟨m, hm⟩ := k0; exact DataW.trod_lt m _ _ _ hm
  obtain ⟨l0, ⟨A0, c0, hc0, hl0, hr0⟩, w0⟩ := O.opens_arg (j := 0) (o24 enc W) hsz rfl rfl h0
  simp only [Value.cells, List.cons.injEq, Value.slice.injEq, and_true] at hc0
  obtain ⟨rfl, rfl, rfl⟩ := hc0
  clear hA0 hval0 hsz0 hsz
  obtain ⟨k, hP⟩ := Pure.FnJournals l0 w0
  refine (laws_FnJournals.calls k _ _ l0 true W hr0 hl0 hP).mono fun e W' ⟨he, bel⟩ => ?_
  subst he
  exact ⟨_, rfl, _, _, _, [], _, [], hW', trodAll_mk1 (shut_bool Try.underlying4 _), (trodAll_cons_mk (Below.trod laidOut (by kernel_rfl) (of_decide_eq_true (by kernel_rfl)) k0 bel lt0) trodAll_mk0), rfl, bel.frame _, fun h => by cases h⟩
theorem over : Rows.fnJournalsRow.holds Try.pinned (OpenSpec.ofChange Rows.fnJournalsSpec) :=
  OpenClaim.holds_of_wide 7 Try.f7 rfl rfl rfl rfl rfl rfl rfl ⟨rfl, rfl, rfl, rfl, rfl⟩ rfl rfl rfl rfl rfl (by kernel_rfl) Try.func7 (by kernel_rfl)
    (of_decide_eq_true (by kernel_rfl)) (by unfold Func.isWrapper; first | (rw [if_pos (by decide +kernel)]; kernel_rfl) | (rw [if_neg (by decide +kernel)]; exact ⟨rfl, rfl⟩))
    (fun os started H enc _ => lifted os started H enc)
theorem proved : Rows.FnJournalsSaid := over
end Go.Proofs.Ytehdbobpbcjmeaa.fnJournals
namespace Go.Proofs.Ytehdbobpbcjmeaa
/-- The row, under a short name, for the claim. -/
theorem fnJournals_holds : Rows.FnJournalsSaid := fnJournals.proved
end Go.Proofs.Ytehdbobpbcjmeaa

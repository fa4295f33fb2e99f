/- The row of the law FnExactSameTerms, out of its pure statement and the contract of its call. Conditions: none beyond the row's own. -/
import Derived.Test.YtlneiofnmbcheaaRows
import Derived.Test.YtlneiofnmbcheaaPFnExactSameTermsx6
import Derived.Test.YtlneiofnmbcheaaPureFnExactSameTerms
import Derived.Test.YtlneiofnmbcheaaO
import Derived.WalkKit
import Derived.ProofKit
import Derived.OpenShut
import Derived.ShutString
import Derived.ChangeOld
import Derived.Below
import Derived.SizedLaws
namespace Go.Proofs.Ytlneiofnmbcheaa.fnExactSameTerms
open Go.ChangeShapes Go.WideShapes Go.ChangeAt Go.RowKit Go.Proofs.Ytlneiofnmbcheaa.PFnExactSameTerms Go.Proofs.YtlneiofnmbcheaaW.PrintWords
open Go.ChangeMaps (open_string shut_string)
set_option linter.unusedVariables false
theorem own : ownKnob Try.prog.godebug = none := by kernel_rfl
theorem laidOut : laidOutB Try.prog = true := by kernel_rfl
theorem o2 {H : Type} (enc : TypeId × Value → H) (W : World) : O.Opens enc Try.prog W 2 (Kd.int .i64) (fun x => (Lit.int .i64 x).wf = true) := O.opens_int Try.underlying2
theorem o22 {H : Type} (enc : TypeId × Value → H) (W : World) : O.Opens enc Try.prog W 22 (Kd.slice 2 (Kd.int .i64)) (fun x => (x.length * 8 ≤ 140737488351232 ∧ ∀ x1_ ∈ x, (Lit.int .i64 x1_).wf = true)) := O.opens_slice (B := 8) Try.underlying22 (by kernel_rfl) (by kernel_rfl) (o2 enc W)
theorem o153 {H : Type} (enc : TypeId × Value → H) (W : World) : O.Opens enc Try.prog W 153 k153 (fun x => ((Lit.int .i64 x.f0).wf = true ∧ (Lit.int .i64 x.f1).wf = true)) := O.opens_struct (fun x : S153 => (x.f0, x.f1)) (fun a => ⟨a.1, a.2⟩) (fun _ => rfl) Try.underlying153 (by kernel_rfl) (O.opensF_cons 0 rfl rfl (by kernel_rfl) (o2 enc W) (O.opensF_last 1 rfl rfl (by kernel_rfl) (o2 enc W)))
theorem o71 {H : Type} (enc : TypeId × Value → H) (W : World) : O.Opens enc Try.prog W 71 (Kd.slice 153 k153) (fun x => (x.length * 16 ≤ 140737488351232 ∧ ∀ x1_ ∈ x, ((Lit.int .i64 x1_.f0).wf = true ∧ (Lit.int .i64 x1_.f1).wf = true))) := O.opens_slice (B := 16) Try.underlying71 (by kernel_rfl) (by kernel_rfl) (o153 enc W)
theorem o111 {H : Type} (enc : TypeId × Value → H) (W : World) : O.Opens enc Try.prog W 111 k111 (fun x => ((Lit.int .i64 x.f0).wf = true ∧ (Lit.int .i64 x.f1).wf = true ∧ (x.f2.length * 8 ≤ 140737488351232 ∧ ∀ x1_ ∈ x.f2, (Lit.int .i64 x1_).wf = true) ∧ (x.f3.length * 16 ≤ 140737488351232 ∧ ∀ x1_ ∈ x.f3, ((Lit.int .i64 x1_.f0).wf = true ∧ (Lit.int .i64 x1_.f1).wf = true)) ∧ (Lit.int .i64 x.f4).wf = true ∧ (Lit.int .i64 x.f5).wf = true)) := O.opens_struct (fun x : S111 => (x.f0, x.f1, x.f2, x.f3, x.f4, x.f5)) (fun a => ⟨a.1, a.2.1, a.2.2.1, a.2.2.2.1, a.2.2.2.2.1, a.2.2.2.2.2⟩) (fun _ => rfl) Try.underlying111 (by kernel_rfl) (O.opensF_cons 0 rfl rfl (by kernel_rfl) (o2 enc W) (O.opensF_cons 1 rfl rfl (by kernel_rfl) (o2 enc W) (O.opensF_cons 2 rfl rfl (by kernel_rfl) (o22 enc W) (O.opensF_cons 3 rfl rfl (by kernel_rfl) (o71 enc W) (O.opensF_cons 4 rfl rfl (by kernel_rfl) (o2 enc W) (O.opensF_last 5 rfl rfl (by kernel_rfl) (o2 enc W)))))))
theorem o49 {H : Type} (enc : TypeId × Value → H) (W : World) : O.Opens enc Try.prog W 49 (Kd.slice 111 k111) (fun x => (x.length * 80 ≤ 140737488351232 ∧ ∀ x1_ ∈ x, ((Lit.int .i64 x1_.f0).wf = true ∧ (Lit.int .i64 x1_.f1).wf = true ∧ (x1_.f2.length * 8 ≤ 140737488351232 ∧ ∀ x2_ ∈ x1_.f2, (Lit.int .i64 x2_).wf = true) ∧ (x1_.f3.length * 16 ≤ 140737488351232 ∧ ∀ x2_ ∈ x1_.f3, ((Lit.int .i64 x2_.f0).wf = true ∧ (Lit.int .i64 x2_.f1).wf = true)) ∧ (Lit.int .i64 x1_.f4).wf = true ∧ (Lit.int .i64 x1_.f5).wf = true))) := O.opens_slice (B := 80) Try.underlying49 (by kernel_rfl) (by kernel_rfl) (o111 enc W)
set_option maxRecDepth 100000 in
theorem lifted (os : Os) (started : os.Started) (H : Type) (enc : TypeId × Value → H) :
    ReturnsInHanded {} Try.checked os 8 .any (Rows.fnExactSameTermsSpec.pre6 enc Try.prog Try.f8 Rows.fnExactSameTermsRow.domain false) (Rows.fnExactSameTermsSpec.post enc Try.prog Try.f8 false true false false) := by
  refine returnsInHanded_of_change_sized (C := Try.checked) own started (by kernel_rfl) Try.func8
    (ChangeSpec.witness6 (enc := enc) (C := Try.checked) false ⟨#[], #[.slice none 0 0, .slice none 0 0], []⟩ 8 (by kernel_rfl) (by kernel_rfl) (by kernel_rfl) (by kernel_rfl)) ?_
  intro W base args ds gs before hval0 hW hcnd hsz0 _
  have hsz : (DataW.weightsEach Try.prog (Try.f8.params.toList ++ Rows.fnExactSameTermsSpec.plain.varTypes Try.prog) (ds ++ gs)).all (· ≤ reachBytes) = true := hsz0
  have hval : ∀ (j : Nat) t v, Try.f8.params[j]? = some t → args[j]? = some v → Value.okWide Try.prog W .any base t v := hval0
  have hW' := hW
  obtain ⟨p, q, hA0, hV, rfl, hfz, hnd⟩ := hW
  have hA : DataW.TrodAll enc Try.prog W 0 (fun _ => true) true Try.f8.params.toList args.toList ds p := hA0
  rw [Try.params8] at hA hval hsz
  obtain ⟨v0, vs0, d0, ds0, p0, q0, hargs, rfl, rfl, h0, r0⟩ := trodAll_cons hA
  obtain ⟨v1, vs1, d1, ds1, p1, q1, rfl, rfl, rfl, h1, r1⟩ := trodAll_cons r0
  obtain ⟨rfl, rfl, rfl⟩ := trodAll_nil r1
  obtain rfl : args = #[v0, v1] := by cases args; simp_all
  obtain ⟨rfl, rfl⟩ := trodVars_none hV
  obtain ⟨b0, len0, cap0, rfl⟩ := okWide_slice Try.underlying49 (hval 0 49 v0 rfl rfl)
  have k0 := h0
  have lt0 : ∀ x ∈ p0, x.block < W.heap.size := by obtain ⟨m, hm⟩ := k0; exact DataW.trod_lt m _ _ _ hm
  obtain ⟨l0, ⟨A0, c0, hc0, hl0, hr0⟩, w0⟩ := O.opens_arg (j := 0) (o49 enc W) hsz rfl rfl h0
  simp only [Value.cells, List.cons.injEq, Value.slice.injEq, and_true] at hc0
  obtain ⟨rfl, rfl, rfl⟩ := hc0
  obtain ⟨b1, len1, cap1, rfl⟩ := okWide_slice Try.underlying49 (hval 1 49 v1 rfl rfl)
  have k1 := h1
  have lt1 : ∀ x ∈ p1, x.block < W.heap.size := by obtain ⟨m, hm⟩ := k1; exact DataW.trod_lt m _ _ _ hm
  obtain ⟨l1, ⟨A1, c1, hc1, hl1, hr1⟩, w1⟩ := O.opens_arg (j := 1) (o49 enc W) hsz rfl rfl h1
  simp only [Value.cells, List.cons.injEq, Value.slice.injEq, and_true] at hc1
  obtain ⟨rfl, rfl, rfl⟩ := hc1
  clear hA0 hval0 hsz0 hsz
  obtain ⟨k, hP⟩ := Pure.FnExactSameTerms l0 l1 w0 w1
  refine (laws_FnExactSameTerms.calls k _ _ l0 _ _ l1 true W hr0 hl0 hr1 hl1 hP).mono fun e W' ⟨he, bel⟩ => ?_
  subst he
  exact ⟨_, rfl, _, _, _, [], _, [], hW', trodAll_mk1 (shut_bool Try.underlying4 _), (trodAll_cons_mk (Below.trod laidOut (by kernel_rfl) (of_decide_eq_true (by kernel_rfl)) k0 bel lt0) (trodAll_cons_mk (Below.trod laidOut (by kernel_rfl) (of_decide_eq_true (by kernel_rfl)) k1 bel lt1) trodAll_mk0)), rfl, bel.frame _, fun h => by cases h⟩
theorem over : Rows.fnExactSameTermsRow.holds Try.pinned (OpenSpec.ofChange Rows.fnExactSameTermsSpec) :=
  OpenClaim.holds_of_wide 8 Try.f8 rfl rfl rfl rfl rfl rfl rfl ⟨rfl, rfl, rfl, rfl, rfl⟩ rfl rfl rfl rfl rfl (by kernel_rfl) Try.func8 (by kernel_rfl)
    (of_decide_eq_true (by kernel_rfl)) (by unfold Func.isWrapper; first | (rw [if_pos (by decide +kernel)]; kernel_rfl) | (rw [if_neg (by decide +kernel)]; exact ⟨rfl, rfl⟩))
    (fun os started H enc _ => lifted os started H enc)
theorem proved : Rows.FnExactSameTermsSaid := over
end Go.Proofs.Ytlneiofnmbcheaa.fnExactSameTerms
namespace Go.Proofs.Ytlneiofnmbcheaa
/-- The row, under a short name, for the claim. -/
theorem fnExactSameTerms_holds : Rows.FnExactSameTermsSaid := fnExactSameTerms.proved
end Go.Proofs.Ytlneiofnmbcheaa

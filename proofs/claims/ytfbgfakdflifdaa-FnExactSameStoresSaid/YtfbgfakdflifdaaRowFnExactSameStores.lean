/- The row of the law FnExactSameStores, out of its pure statement and the contract of its call. Conditions: none beyond the row's own. -/
import Derived.Test.YtfbgfakdflifdaaRows
import Derived.Test.YtfbgfakdflifdaaPFnExactSameStoresx8
import Derived.Test.YtfbgfakdflifdaaPureFnExactSameStores
import Derived.Test.YtfbgfakdflifdaaO
import Derived.WalkKit
import Derived.ProofKit
import Derived.OpenShut
import Derived.ShutString
import Derived.ChangeOld
import Derived.Below
import Derived.SizedLaws
namespace Go.Proofs.Ytfbgfakdflifdaa.fnExactSameStores
open Go.ChangeShapes Go.WideShapes Go.ChangeAt Go.RowKit Go.Proofs.Ytfbgfakdflifdaa.PFnExactSameStores Go.Proofs.YtfbgfakdflifdaaW.PrintWords
open Go.ChangeMaps (open_string shut_string)
set_option linter.unusedVariables false
theorem own : ownKnob Try.prog.godebug = none := by kernel_rfl
theorem laidOut : laidOutB Try.prog = true := by kernel_rfl
theorem o2 {H : Type} (enc : TypeId × Value → H) (W : World) : O.Opens enc Try.prog W 2 (Kd.int .i64) (fun x => (Lit.int .i64 x).wf = true) := O.opens_int Try.underlying2
theorem o9 {H : Type} (enc : TypeId × Value → H) (W : World) : O.Opens enc Try.prog W 9 Kd.string (fun x => x.size ≤ 140737488351232) := O.opens_string Try.underlying9
theorem o5 {H : Type} (enc : TypeId × Value → H) (W : World) : O.Opens enc Try.prog W 5 (Kd.int .u8) (fun x => (Lit.int .u8 x).wf = true) := O.opens_int Try.underlying5
theorem o35 {H : Type} (enc : TypeId × Value → H) (W : World) : O.Opens enc Try.prog W 35 (Kd.slice 5 (Kd.int .u8)) (fun x => (x.length * 1 ≤ 140737488351232 ∧ ∀ x1_ ∈ x, (Lit.int .u8 x1_).wf = true)) := O.opens_slice (B := 1) Try.underlying35 (by kernel_rfl) (by kernel_rfl) (o5 enc W)
theorem o166 {H : Type} (enc : TypeId × Value → H) (W : World) : O.Opens enc Try.prog W 166 k166 (fun x => ((Lit.int .i64 x.f0).wf = true ∧ (Lit.int .i64 x.f1).wf = true ∧ (Lit.int .i64 x.f2).wf = true ∧ (x.f3.length * 1 ≤ 140737488351232 ∧ ∀ x1_ ∈ x.f3, (Lit.int .u8 x1_).wf = true))) := O.opens_struct (fun x : S166 => (x.f0, x.f1, x.f2, x.f3)) (fun a => ⟨a.1, a.2.1, a.2.2.1, a.2.2.2⟩) (fun _ => rfl) Try.underlying166 (by kernel_rfl) (O.opensF_cons 0 rfl rfl (by kernel_rfl) (o2 enc W) (O.opensF_cons 1 rfl rfl (by kernel_rfl) (o2 enc W) (O.opensF_cons 2 rfl rfl (by kernel_rfl) (o2 enc W) (O.opensF_last 3 rfl rfl (by kernel_rfl) (o35 enc W)))))
theorem o44 {H : Type} (enc : TypeId × Value → H) (W : World) : O.Opens enc Try.prog W 44 (Kd.slice 166 k166) (fun x => (x.length * 48 ≤ 140737488351232 ∧ ∀ x1_ ∈ x, ((Lit.int .i64 x1_.f0).wf = true ∧ (Lit.int .i64 x1_.f1).wf = true ∧ (Lit.int .i64 x1_.f2).wf = true ∧ (x1_.f3.length * 1 ≤ 140737488351232 ∧ ∀ x2_ ∈ x1_.f3, (Lit.int .u8 x2_).wf = true)))) := O.opens_slice (B := 48) Try.underlying44 (by kernel_rfl) (by kernel_rfl) (o166 enc W)
theorem o46 {H : Type} (enc : TypeId × Value → H) (W : World) : O.Opens enc Try.prog W 46 k46 (fun x => (x.f0.size ≤ 140737488351232 ∧ (Lit.int .i64 x.f1).wf = true ∧ (Lit.int .i64 x.f2).wf = true ∧ (x.f3.length * 48 ≤ 140737488351232 ∧ ∀ x1_ ∈ x.f3, ((Lit.int .i64 x1_.f0).wf = true ∧ (Lit.int .i64 x1_.f1).wf = true ∧ (Lit.int .i64 x1_.f2).wf = true ∧ (x1_.f3.length * 1 ≤ 140737488351232 ∧ ∀ x2_ ∈ x1_.f3, (Lit.int .u8 x2_).wf = true))))) := O.opens_struct (fun x : S46 => (x.f0, x.f1, x.f2, x.f3)) (fun a => ⟨a.1, a.2.1, a.2.2.1, a.2.2.2⟩) (fun _ => rfl) Try.underlying46 (by kernel_rfl) (O.opensF_cons 0 rfl rfl (by kernel_rfl) (o9 enc W) (O.opensF_cons 1 rfl rfl (by kernel_rfl) (o2 enc W) (O.opensF_cons 2 rfl rfl (by kernel_rfl) (o2 enc W) (O.opensF_last 3 rfl rfl (by kernel_rfl) (o44 enc W)))))
theorem o55 {H : Type} (enc : TypeId × Value → H) (W : World) : O.Opens enc Try.prog W 55 (Kd.slice 46 k46) (fun x => (x.length * 56 ≤ 140737488351232 ∧ ∀ x1_ ∈ x, (x1_.f0.size ≤ 140737488351232 ∧ (Lit.int .i64 x1_.f1).wf = true ∧ (Lit.int .i64 x1_.f2).wf = true ∧ (x1_.f3.length * 48 ≤ 140737488351232 ∧ ∀ x2_ ∈ x1_.f3, ((Lit.int .i64 x2_.f0).wf = true ∧ (Lit.int .i64 x2_.f1).wf = true ∧ (Lit.int .i64 x2_.f2).wf = true ∧ (x2_.f3.length * 1 ≤ 140737488351232 ∧ ∀ x3_ ∈ x2_.f3, (Lit.int .u8 x3_).wf = true)))))) := O.opens_slice (B := 56) Try.underlying55 (by kernel_rfl) (by kernel_rfl) (o46 enc W)
set_option maxRecDepth 100000 in
theorem lifted (os : Os) (started : os.Started) (H : Type) (enc : TypeId × Value → H) :
    ReturnsInHanded {} Try.checked os 7 .any (Rows.fnExactSameStoresSpec.pre6 enc Try.prog Try.f7 Rows.fnExactSameStoresRow.domain false) (Rows.fnExactSameStoresSpec.post enc Try.prog Try.f7 false true false false) := by
  refine returnsInHanded_of_change_sized (C := Try.checked) own started (by kernel_rfl) Try.func7
    (ChangeSpec.witness6 (enc := enc) (C := Try.checked) false ⟨#[], #[.agg #[.int .i64 0, .slice none 0 0], .agg #[.int .i64 0, .slice none 0 0]], []⟩ 8 (by kernel_rfl) (by kernel_rfl) (by kernel_rfl) (by kernel_rfl)) ?_
  intro W base args ds gs before hval0 hW hcnd hsz0 _
  have hsz : (DataW.weightsEach Try.prog (Try.f7.params.toList ++ Rows.fnExactSameStoresSpec.plain.varTypes Try.prog) (ds ++ gs)).all (· ≤ reachBytes) = true := hsz0
  have hval : ∀ (j : Nat) t v, Try.f7.params[j]? = some t → args[j]? = some v → Value.okWide Try.prog W .any base t v := hval0
  have hW' := hW
  obtain ⟨p, q, hA0, hV, rfl, hfz, hnd⟩ := hW
  have hA : DataW.TrodAll enc Try.prog W 0 (fun _ => true) true Try.f7.params.toList args.toList ds p := hA0
  rw [Try.params7] at hA hval hsz
  obtain ⟨v0, vs0, d0, ds0, p0, q0, hargs, rfl, rfl, h0, r0⟩ := trodAll_cons hA
  obtain ⟨v1, vs1, d1, ds1, p1, q1, rfl, rfl, rfl, h1, r1⟩ := trodAll_cons r0
  obtain ⟨rfl, rfl, rfl⟩ := trodAll_nil r1
  obtain rfl : args = #[v0, v1] := by cases args; simp_all
  obtain ⟨rfl, rfl⟩ := trodVars_none hV
  obtain ⟨cs0, rfl⟩ := O.okWide_struct Try.underlying57 (hval 0 57 v0 rfl rfl)
  have k0 := h0
  have lt0 : ∀ x ∈ p0, x.block < W.heap.size := by obtain ⟨m, hm⟩ := k0; exact DataW.trod_lt m _ _ _ hm
  obtain ⟨⟨y0_0, y0_1⟩, ⟨e0_0, f0_0, hcs0, h0_0, h0_1⟩, ⟨w0_0, w0_1⟩⟩ := O.opens_arg (j := 0) (O.opens_structP Try.underlying57 (by kernel_rfl) (O.opensF_cons 0 rfl rfl (by kernel_rfl) (o2 enc W) (O.opensF_last 1 rfl rfl (by kernel_rfl) (o55 enc W)))) hsz rfl rfl h0
  obtain rfl := h0_0
  obtain ⟨A0_1, c0_1, rfl, hl0_1, hr0_1⟩ := h0_1
  obtain rfl : cs0 = #[.int .i64 y0_0, .slice A0_1 y0_1.length c0_1] := O.agg_of hcs0
  obtain ⟨cs1, rfl⟩ := O.okWide_struct Try.underlying57 (hval 1 57 v1 rfl rfl)
  have k1 := h1
  have lt1 : ∀ x ∈ p1, x.block < W.heap.size := by obtain ⟨m, hm⟩ := k1; exact DataW.trod_lt m _ _ _ hm
  obtain ⟨⟨y1_0, y1_1⟩, ⟨e1_0, f1_0, hcs1, h1_0, h1_1⟩, ⟨w1_0, w1_1⟩⟩ := O.opens_arg (j := 1) (O.opens_structP Try.underlying57 (by kernel_rfl) (O.opensF_cons 0 rfl rfl (by kernel_rfl) (o2 enc W) (O.opensF_last 1 rfl rfl (by kernel_rfl) (o55 enc W)))) hsz rfl rfl h1
  obtain rfl := h1_0
  obtain ⟨A1_1, c1_1, rfl, hl1_1, hr1_1⟩ := h1_1
  obtain rfl : cs1 = #[.int .i64 y1_0, .slice A1_1 y1_1.length c1_1] := O.agg_of hcs1
  clear hA0 hval0 hsz0 hsz
  obtain ⟨k, hP⟩ := Pure.FnExactSameStores y0_0 y0_1 y1_0 y1_1 w0_0 w0_1 w1_0 w1_1
  refine (laws_FnExactSameStores.calls k y0_0 _ _ y0_1 y1_0 _ _ y1_1 true W hr0_1 hl0_1 hr1_1 hl1_1 hP).mono fun e W' ⟨he, bel⟩ => ?_
  subst he
  exact ⟨_, rfl, _, _, _, [], _, [], hW', trodAll_mk1 (shut_bool Try.underlying4 _), (trodAll_cons_mk (Below.trod laidOut (by kernel_rfl) (of_decide_eq_true (by kernel_rfl)) k0 bel lt0) (trodAll_cons_mk (Below.trod laidOut (by kernel_rfl) (of_decide_eq_true (by kernel_rfl)) k1 bel lt1) trodAll_mk0)), rfl, bel.frame _, fun h => by cases h⟩
theorem over : Rows.fnExactSameStoresRow.holds Try.pinned (OpenSpec.ofChange Rows.fnExactSameStoresSpec) :=
  OpenClaim.holds_of_wide 7 Try.f7 rfl rfl rfl rfl rfl rfl rfl ⟨rfl, rfl, rfl, rfl, rfl⟩ rfl rfl rfl rfl rfl (by kernel_rfl) Try.func7 (by kernel_rfl)
    (of_decide_eq_true (by kernel_rfl)) (by unfold Func.isWrapper; first | (rw [if_pos (by decide +kernel)]; kernel_rfl) | (rw [if_neg (by decide +kernel)]; exact ⟨rfl, rfl⟩))
    (fun os started H enc _ => lifted os started H enc)
theorem proved : Rows.FnExactSameStoresSaid := over
end Go.Proofs.Ytfbgfakdflifdaa.fnExactSameStores
namespace Go.Proofs.Ytfbgfakdflifdaa
/-- The row, under a short name, for the claim. -/
theorem fnExactSameStores_holds : Rows.FnExactSameStoresSaid := fnExactSameStores.proved
end Go.Proofs.Ytfbgfakdflifdaa

/- Functions of the program as Lean functions, each with the proof that its call comes to what that function says (texts written by a program of this session). Conditions: those that stand in each theorem. -/
import Derived.Test.YtehdbobpbcjmeaaVFnReadsZ
import Derived.Test.YtehdbobpbcjmeaaPFnReadsx0
import Derived.Test.YtehdbobpbcjmeaaPFnReadsx14
namespace Go.Proofs.Ytehdbobpbcjmeaa.PFnReads
open Go.RowKit Go.Proofs.YtehdbobpbcjmeaaW.PrintWords Go.Proofs.YtehdbobpbcjmeaaW.PrintLast Go.Proofs.YtehdbobpbcjmeaaW.PrintMore
attribute [local go_sem] max2_int min2_int max_two min_two max_three min_three max_four min_four   -- for this text's walks alone
set_option linter.unusedVariables false
set_option linter.unusedSimpArgs false

/-! ### impl_SameOps: function 37 -/
def impl_SameOps.f (k : Nat) (l0 : List (S37)) (l1 : List (S37)) : Option (Bool) := (impl_Op_v0.f k l0 l1).bind fun t831 => (some t831)
set_option maxHeartbeats 8000000 in
set_option maxRecDepth 100000 in
theorem impl_SameOps.calls (k : Nat) (A0 : Option Addr) (c0 : Nat) (l0 : List (S37)) (A1 : Option Addr) (c1 : Nat) (l1 : List (S37)) (r : Bool) (w : World) (hr0 : Kd.C k37 w A0 l0.length l0) (hc0 : l0.length ≤ c0) (hr1 : Kd.C k37 w A1 l1.length l1) (hc1 : l1.length ≤ c1) (h : impl_SameOps.f k l0 l1 = some r) :
 Calls Try.prog 37 #[.slice A0 l0.length c0, .slice A1 l1.length c1] w fun e w' => e = .returned (.bool r) ∧ Below w.heap.size w w' := by
 have HR0 := Aside0.mk hr0; have HC0 := Aside0.mk hc0; clear hr0 hc0; have HR1 := Aside0.mk hr1; have HC1 := Aside0.mk hc1; clear hr1 hc1; have HB := Aside0.mk (Below.refl w.heap.size w); have H := h; unfold impl_SameOps.f at H; clear h; replace H := Option.bind_eq_some_iff.mp H; obtain ⟨t831, A30, H⟩ := H; replace H : (some t831) = some r := H; have A3 := Aside0.mk A30; clear A30; obtain rfl := Option.some.inj H
 go_enter Try.func37, Try.ntmps37
 go_wp2_with (first | (go_at_call 63; (with_reducible refine (impl_Op_v0.calls k _ _ l0 _ _ l1 t831 _ ?_ ?_ ?_ ?_ A3.out).mono ?_); exact C_up HR0.out; exact HC0.out; exact C_up HR1.out; exact HC1.out; rintro e w4 ⟨rfl, hb⟩; replace HB := bs_ HB hb; (try clear hb)))
 go_ret
 exact ⟨ve_, hb_⟩

end Go.Proofs.Ytehdbobpbcjmeaa.PFnReads

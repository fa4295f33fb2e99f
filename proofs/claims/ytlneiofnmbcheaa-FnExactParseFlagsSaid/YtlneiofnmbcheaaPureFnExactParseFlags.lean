/- For every text, the program reads the flags that the reference reads. -/
import Derived.Test.YtlneiofnmbcheaaPFnExactParseFlagsx1
import Derived.Test.YtlneiofnmbcheaaU
namespace Go.Proofs.Ytlneiofnmbcheaa.Pure
open Go.RowKit Go.Proofs.Ytlneiofnmbcheaa.PFnExactParseFlags Go.Proofs.YtlneiofnmbcheaaW.PrintWords Go.Proofs.YtlneiofnmbcheaaW.PrintLast Go.Proofs.Ytlneiofnmbcheaa.U
set_option linter.unusedSimpArgs false
set_option linter.unusedVariables false

def flagsTx (n : Int) : ByteArray := (impl_flagsText.f 40 n).getD ByteArray.empty
theorem flagsTx_impl (n : Int) (h0 : 0 ≤ n) (h1 : n ≤ 15) : Ev (fun k => impl_flagsText.f k n) (flagsTx n) := by
  have hc : n = 0 ∨ n = 1 ∨ n = 2 ∨ n = 3 ∨ n = 4 ∨ n = 5 ∨ n = 6 ∨ n = 7 ∨ n = 8 ∨ n = 9 ∨ n = 10 ∨ n = 11 ∨ n = 12 ∨ n = 13 ∨ n = 14 ∨ n = 15 := by omega
  rcases hc with rfl | rfl | rfl | rfl | rfl | rfl | rfl | rfl | rfl | rfl | rfl | rfl | rfl | rfl | rfl | rfl
  all_goals exact Ev.of (fun k => impl_flagsText.mono _ k) (k := 40) (by kernel_rfl)
theorem flagsTx_spec (n : Int) (h0 : 0 ≤ n) (h1 : n ≤ 15) : Ev (fun k => spec_l7Flags.f k n) (flagsTx n) := by
  have hc : n = 0 ∨ n = 1 ∨ n = 2 ∨ n = 3 ∨ n = 4 ∨ n = 5 ∨ n = 6 ∨ n = 7 ∨ n = 8 ∨ n = 9 ∨ n = 10 ∨ n = 11 ∨ n = 12 ∨ n = 13 ∨ n = 14 ∨ n = 15 := by omega
  rcases hc with rfl | rfl | rfl | rfl | rfl | rfl | rfl | rfl | rfl | rfl | rfl | rfl | rfl | rfl | rfl | rfl
  all_goals exact Ev.of (fun k => spec_l7Flags.mono _ k) (k := 40) (by kernel_rfl)
theorem within_eq (a b c : Int) : impl_within.f a b c = some (decide (b ≤ a ∧ a ≤ c)) := by
  unfold impl_within.f
  by_cases h : b ≤ a <;> simp [h]
def parseGo (x : ByteArray) : Nat → Int → Int × Int
  | 0, _ => (5, 0)
  | d + 1, n => if (flagsTx n).toList = x.toList then (0, n) else parseGo x d (n + 1)
theorem ev_specParseGo (x : ByteArray) : ∀ (d : Nat) (n : Int), n + d = 16 → 0 ≤ n → Ev (fun k => spec_ParseFlags.l0 k x n) (parseGo x d n)
  | 0, n, h, h0 => by
    refine Ev.succ ?_
    simp only [spec_ParseFlags.l0]
    exact Ev.neg (by omega) (Ev.now _)
  | d + 1, n, h, h0 => by
    refine Ev.succ ?_
    simp only [spec_ParseFlags.l0, parseGo]
    refine Ev.pos (by omega) (Ev.bind (flagsTx_spec n h0 (by omega)) (Ev.ite (fun _ => Ev.now _) (fun _ => ?_)))
    rw [wid (x := n + 1) (by omega) (by omega)]
    exact ev_specParseGo x d (n + 1) (by omega) (by omega)
theorem ev_implParseGo (x : ByteArray) : ∀ (d : Nat) (n : Int), n + d = 16 → 0 ≤ n → Ev (fun k => impl_ParseFlags.l0 k x n) (parseGo x d n)
  | 0, n, h, h0 => by
    refine Ev.succ ?_
    simp only [impl_ParseFlags.l0, impl_areFlags.f, within_eq, Option.bind_some]
    exact Ev.neg (by simp; omega) (Ev.now _)
  | d + 1, n, h, h0 => by
    refine Ev.succ ?_
    simp only [impl_ParseFlags.l0, parseGo, impl_areFlags.f, within_eq, Option.bind_some]
    refine Ev.pos (by simp; omega) (Ev.bind (flagsTx_impl n h0 (by omega)) (Ev.ite (fun _ => Ev.now _) (fun _ => ?_)))
    rw [wid (x := n + 1) (by omega) (by omega)]
    exact ev_implParseGo x d (n + 1) (by omega) (by omega)
theorem ev_specParseFlags (x : ByteArray) : Ev (fun k => spec_ParseFlags.f k x) (parseGo x 16 0) := ev_specParseGo x 16 0 (by omega) (by omega)
theorem ev_implParseFlags (x : ByteArray) : Ev (fun k => impl_ParseFlags.f k x) (parseGo x 16 0) := ev_implParseGo x 16 0 (by omega) (by omega)
theorem FnExactParseFlags : ∀ (a0 : ByteArray), a0.size ≤ 140737488351232 → ∃ k, laws_FnExactParseFlags.f k a0 = some true := by
  intro x _
  apply Ev.get
  unfold laws_FnExactParseFlags.f
  by_cases hb : (x.size : Int) > 1048576
  · exact Ev.pos hb (Ev.now _)
  · refine Ev.neg hb ?_
    refine Ev.bind (ev_specParseFlags x) (Ev.bind (ev_implParseFlags x) (Ev.bindc (b := true) ?_ (Ev.pos rfl (Ev.now _))))
    unfold laws_eqIntResult.f
    simp

end Go.Proofs.Ytlneiofnmbcheaa.Pure

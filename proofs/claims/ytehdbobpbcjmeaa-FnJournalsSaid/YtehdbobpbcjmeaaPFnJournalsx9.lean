/- Functions of the program, each with what its call comes to. Conditions: each theorem's. -/
import Derived.Test.YtehdbobpbcjmeaaVFnJournalsZ
import Derived.Test.YtehdbobpbcjmeaaPFnJournalsx0
import Derived.Test.YtehdbobpbcjmeaaPFnJournalsx8
namespace Go.Proofs.Ytehdbobpbcjmeaa.PFnJournals
open Go.RowKit Go.Proofs.YtehdbobpbcjmeaaW.PrintWords Go.Proofs.YtehdbobpbcjmeaaW.PrintLast Go.Proofs.YtehdbobpbcjmeaaW.PrintMore
attribute [local go_sem] max2_int min2_int max_two min_two max_three min_three max_four min_four   -- for this text's walks alone
set_option linter.unusedVariables false
set_option linter.unusedSimpArgs false
set_option maxHeartbeats 8000000
set_option maxRecDepth 100000

/-! ### impl_taker_one: function 89 -/
def impl_taker_one.f (s0_0 : List Int) (s0_1 : Bool) : Option (Int × List Int × Bool) := if s0_1 = true ∨ (s0_0.length : Int) < 1 then some (0, s0_0, true) else some (wrap64 (rd s0_0 0), s0_0.drop 1, false)
theorem impl_taker_one.calls (g : Nat) (s0_0 : List Int) (s0_1 : Bool) (r1 : Int) (r2 : List Int) (r3 : Bool) (w0 w : World) (hI : IsS99 w0 w g s0_0 s0_1) (hB : Below w0.heap.size w0 w) (h : impl_taker_one.f s0_0 s0_1 = some (r1, r2, r3)) :
 Calls Try.prog 89 #[.pointer (some ⟨g, 0, none⟩)] w fun e w' => e = .returned (.int .i64 r1) ∧ IsS99 w0 w' g r2 r3 ∧ Below w0.heap.size w0 w' ∧ KeepBut w w' g none := by
 have hT : ∃ l : List Int, l.length = 1 ∧ impl_taker_take.f s0_0 s0_1 1 = some (l, r2, r3) ∧ r1 = wrap64 (rd l 0) := by
  unfold impl_taker_one.f at h; unfold impl_taker_take.f; rw [if_pos (show (0 : Int) ≤ 1 ∧ (1 : Int) ≤ 100000 by decide)]
  by_cases hc : s0_1 = true ∨ (s0_0.length : Int) < 1
  · rw [if_pos hc] at h ⊢
    simp only [Option.some.injEq, Prod.mk.injEq] at h; obtain ⟨rfl, rfl, rfl⟩ := h
    exact ⟨_, List.length_replicate, rfl, by kernel_rfl⟩
  ·
   rw [if_neg hc] at h ⊢; simp only [Option.some.injEq, Prod.mk.injEq] at h; obtain ⟨rfl, rfl, rfl⟩ := h
   have hn : ¬ (s0_0.length : Int) < 1 := fun h_ => hc (.inr h_)
   refine ⟨_, ?_, rfl, ?_⟩
   · rw [List.length_take]; show min 1 _ = 1; omega
   · cases s0_0 with | nil => exact absurd (by decide) hn | cons a t => rfl
 clear h; obtain ⟨l, hl, hT, rfl⟩ := hT; have HT := Aside0.mk hT; have HL := Aside0.mk hl; have HI := Aside0.mk hI; have HB := Aside0.mk hB; clear hT hI hB hl
 go_enter Try.func89, Try.ntmps89
 go_wp2_with (first | ((with_reducible refine gate_callee (f := 90) rfl ?_); refine goesL_ (some 4) rfl rfl Try.func90 (by kernel_rfl) rfl #[.pointer (some ⟨g, 0, none⟩), .int .i64 1] rfl (by (try simp only [List.map_toArray, List.map_cons, List.map_nil]); first | done | rfl) ?_; refine (impl_taker_take.calls g s0_0 s0_1 1 l r2 r3 w0 _ HI.out HB.out HT.out).mono ?_; rintro e w1 ⟨vs, rfl, ⟨Aq, cq, es, hC, hc⟩, hi, hb, hk⟩; subst es; refine ⟨_, rfl, ?_⟩; rw [HL.out]; obtain ⟨ad0, ea0, hx0⟩ := Kd.at_int hC 0 (by omega) (by rw [HL.out]; decide); cases ea0; rw [show ((0 : Int)).toNat = 0 from rfl, Addr.add_zero'] at hx0; clear hC; have HI1 := Aside0.mk hi; have HB1 := Aside0.mk hb; have HK1 := Aside0.mk hk; clear hi hb hk))
 go_ret
 exact ⟨by first | rfl | (simp; done), by repeat (first | exact HI1.out | apply IsS99.drewN | apply IsS99.drew), by repeat (first | exact HB1.out | apply pw_below_drewN | apply below_drew1), by repeat (first | exact HK1.out | apply keep_drewN | apply keep_drew)⟩

/-! ### bytes_Equal: function 91 -/
def bytes_Equal.f (l0 : List Int) (l1 : List Int) : Option (Bool) := some ((strOfNums l0).toList == (strOfNums l1).toList)
theorem bytes_Equal.calls (A0 : Option Addr) (c0 : Nat) (l0 : List Int) (A1 : Option Addr) (c1 : Nat) (l1 : List Int) (r : Bool) (w : World) (hr0 : Kd.C (Kd.int .u8) w A0 l0.length l0) (hc0 : l0.length ≤ c0) (hr1 : Kd.C (Kd.int .u8) w A1 l1.length l1) (hc1 : l1.length ≤ c1) (h : bytes_Equal.f l0 l1 = some r) :
 Calls Try.prog 91 #[.slice A0 l0.length c0, .slice A1 l1.length c1] w fun e w' => e = .returned (.bool r) ∧ Drawn0 w w' := by
 have HR0 := Aside0.mk hr0; have HC0 := Aside0.mk hc0; clear hr0 hc0; have HR1 := Aside0.mk hr1; have HC1 := Aside0.mk hc1; clear hr1 hc1; have H := h; unfold bytes_Equal.f at H; clear h; obtain rfl := Option.some.inj H; have hcv3 := Kd.C_string (P := Try.prog) (A := A0) (c := c0) Try.underlying24 Try.underlying5 Try.underlying9 HR0.out
 have hcq4 := fun (nq_ : Nat) => Kd.C_string (P := Try.prog) (A := A0) (c := c0) Try.underlying24 Try.underlying5 Try.underlying9 (Kd.C_drewN HR0.out nq_)
 have hcv5 := Kd.C_string (P := Try.prog) (A := A1) (c := c1) Try.underlying24 Try.underlying5 Try.underlying9 HR1.out
 have hcq6 := fun (nq_ : Nat) => Kd.C_string (P := Try.prog) (A := A1) (c := c1) Try.underlying24 Try.underlying5 Try.underlying9 (Kd.C_drewN HR1.out nq_)
 go_enter Try.func91, Try.ntmps91
 go_wp2
 go_ret
 exact ⟨vl_, dr_⟩

end Go.Proofs.Ytehdbobpbcjmeaa.PFnJournals

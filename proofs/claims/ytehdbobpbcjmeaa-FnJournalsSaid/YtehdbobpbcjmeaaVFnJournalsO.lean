/- Words that the law's texts use (taken out of the print's words by a program of this session). No condition of its own. -/
import Derived.Test.YtehdbobpbcjmeaaVFnJournalsWWords
import Derived.Test.YtehdbobpbcjmeaaVFnJournalsWLast
import Derived.Test.YtehdbobpbcjmeaaVFnJournalsWApart
import Derived.Test.YtehdbobpbcjmeaaVFnJournalsWFoot
import Derived.Test.YtehdbobpbcjmeaaVFnJournalsWKept
import Derived.Test.YtehdbobpbcjmeaaVFnJournalsWShare
import Derived.Test.YtehdbobpbcjmeaaVFnJournalsWN
import Derived.Test.YtehdbobpbcjmeaaVFnJournalsWNEv
import Derived.Test.YtehdbobpbcjmeaaVFnJournalsWMore
import Derived.WalkKit
import Derived.ProofKit
import Derived.OpenShut
import Derived.ShutString
import Derived.ChangeOld
import Derived.Below
import Derived.SizedLaws
import Derived.ChangeSame
import Derived.Deep.Slices
namespace Go.Proofs.Ytehdbobpbcjmeaa.O
open Go.ChangeShapes Go.WideShapes Go.ChangeAt Go.RowKit Go.Proofs.YtehdbobpbcjmeaaW.PrintWords

section
variable {H : Type} {enc : TypeId × Value → H} {P : Program} {W : World} {α β : Type}

def Opens (enc : TypeId × Value → H) (P : Program) (W : World) (t : TypeId) (d : Kd α) (Ok : α → Prop) : Prop :=
  ∀ (fuel : Nat) (cs : List Value) (x : DataW H × List MemPlace), DataW.trod enc P W 0 (fun _ => true) true fuel t cs = some x → (x.1.weights P t).all (· ≤ reachBytes) = true → ∃ a, d.K W a cs ∧ Ok a

theorem opens_int {t : TypeId} {k : IntKind} (ht : P.underlying t = some (.int k)) : Opens enc P W t (Kd.int k) (fun n => (Lit.int k n).wf = true) := by
  intro fuel cs x h _
  cases fuel with
  | zero => simp [DataW.trod] at h
  | succ fuel =>
    unfold DataW.trod at h
    rw [ht] at h
    split at h <;> simp_all
    obtain ⟨h, _⟩ := h
    exact ⟨_, rfl, h.2⟩
theorem opens_slice {t e : TypeId} {d : Kd α} {Ok : α → Prop} {B : Nat} (ht : P.underlying t = some (.slice e)) (hz : P.cellsOf e = d.sz) (hB : P.bytesOf e = B) (ho : Opens enc P W e d Ok) :
    Opens enc P W t (Kd.slice e d) (fun xs => xs.length * B ≤ 140737488351232 ∧ ∀ x ∈ xs, Ok x) := by
  intro fuel cs x h hs
  rcases Go.Deep.open_slice ht h with ⟨rfl, rfl⟩ | ⟨a, len, cap, m, n, D, Pl, rfl, hb, hl, hm, hmm, rfl, hx⟩
  · refine ⟨[], ⟨none, 0, rfl, Nat.le_refl _, ?_⟩, by simp, by simp⟩
    exact ⟨rfl, by simp, fun h => absurd h (by simp)⟩
  · simp only [if_true] at hmm
    subst hmm
    simp only [hz] at hx
    simp only [DataW.weights, ht, List.all_cons, List.all_append, Bool.and_eq_true, decide_eq_true_eq, List.length_map, List.length_range, hB] at hs
    obtain ⟨hs0, hs1, _⟩ := hs
    have hw : ∀ i, i < len → ((D i).weights P e).all (· ≤ reachBytes) = true := by
      intro i hi
      have gen : ∀ (l : List (DataW H)), (DataW.weightsAll P e l).all (· ≤ reachBytes) = true → ∀ y ∈ l, (y.weights P e).all (· ≤ reachBytes) = true := by
        intro l
        induction l with
        | nil => intro _ y hy; cases hy
        | cons z l ih =>
          intro hl y hy
          simp only [DataW.weightsAll, List.all_append, Bool.and_eq_true] at hl
          rcases List.mem_cons.1 hy with rfl | hy
          · exact hl.1
          · exact ih hl.2 y hy
      exact gen _ hs1 _ (List.mem_map.2 ⟨i, by simpa using hi, rfl⟩)
    have each : ∀ i, i < len → ∃ q : α × List Value, W.cells? 0 (a.add (i * d.sz)) d.sz = some q.2 ∧ d.K W q.1 q.2 ∧ Ok q.1 := by
      intro i hi
      obtain ⟨cs', h1, h2⟩ := hx i (by omega)
      obtain ⟨y, hy, hk⟩ := ho _ _ _ h2 (hw i hi)
      exact ⟨(y, cs'), h1, hy, hk⟩
    have choose : ∀ i : Fin len, ∃ q : α × List Value, W.cells? 0 (a.add (i.val * d.sz)) d.sz = some q.2 ∧ d.K W q.1 q.2 ∧ Ok q.1 := fun i => each i.val i.isLt
    refine ⟨(List.finRange len).map fun i => (Classical.choose (choose i)).1, ⟨some a, m, by simp, by simpa using hl, ?_⟩, ?_, ?_⟩
    · refine ⟨rfl, by simp; unfold maxLen at hm; omega, fun _ => ⟨a, rfl, ?_⟩⟩
      intro j p hj
      simp only [List.getElem?_map, Option.map_eq_some_iff] at hj
      obtain ⟨i, hi, rfl⟩ := hj
      have hij : i.val = j := by
        obtain ⟨h1, h2⟩ := List.getElem?_eq_some_iff.1 hi
        rw [← h2]; simp
      obtain ⟨h1, h2, _⟩ := Classical.choose_spec (choose i)
      obtain ⟨_, hlen, hcell⟩ := World.cells?_some h1
      refine ⟨_, hlen, h2, fun k u hk => ?_⟩
      have hk' : k < d.sz := by rw [← hlen]; exact (List.getElem?_eq_some_iff.1 hk).1
      have := hcell k hk'
      rw [hk, hij] at this
      rw [← Addr.add_add]; exact this
    · simp only [List.length_map, List.length_finRange]
      simp [reachBytes] at hs0
      exact Nat.le_trans (Nat.mul_le_mul_right _ (by omega)) hs0
    · intro x hx
      obtain ⟨i, _, rfl⟩ := List.mem_map.1 hx
      exact (Classical.choose_spec (choose i)).2.2
theorem opens_arg {t : TypeId} {d : Kd α} {Ok : α → Prop} {v : Value} {dd : DataW H} {p : List MemPlace} {ts : List TypeId} {ds : List (DataW H)} {j : Nat} (ho : Opens enc P W t d Ok)
    (hsz : (DataW.weightsEach P ts ds).all (· ≤ reachBytes) = true) (ht : ts[j]? = some t) (hd : ds[j]? = some dd) (h : DataW.Trod enc P W 0 (fun _ => true) true t v dd p) : ∃ a, d.K W a v.cells.toList ∧ Ok a := by
  obtain ⟨fuel, hf⟩ := h
  refine ho _ _ _ hf ?_
  rw [List.all_eq_true] at hsz ⊢
  exact fun z hz => hsz z (DataW.weights_mem_each ht hd z hz)
end
end Go.Proofs.Ytehdbobpbcjmeaa.O

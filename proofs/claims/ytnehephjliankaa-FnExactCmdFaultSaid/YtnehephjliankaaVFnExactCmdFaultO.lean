/- Words that the law's texts use (taken out of the print's words by a program of this session). No condition of its own. -/
import Derived.Test.YtnehephjliankaaVFnExactCmdFaultWWords
import Derived.Test.YtnehephjliankaaVFnExactCmdFaultWLast
import Derived.Test.YtnehephjliankaaVFnExactCmdFaultWApart
import Derived.Test.YtnehephjliankaaVFnExactCmdFaultWFoot
import Derived.Test.YtnehephjliankaaVFnExactCmdFaultWKept
import Derived.Test.YtnehephjliankaaVFnExactCmdFaultWShare
import Derived.Test.YtnehephjliankaaVFnExactCmdFaultWN
import Derived.Test.YtnehephjliankaaVFnExactCmdFaultWMore
import Derived.WalkKit
import Derived.ProofKit
import Derived.OpenShut
import Derived.ShutString
import Derived.ChangeOld
import Derived.Below
import Derived.SizedLaws
import Derived.ChangeSame
import Derived.Deep.Slices
namespace Go.Proofs.Ytnehephjliankaa.O
open Go.ChangeShapes Go.WideShapes Go.ChangeAt Go.RowKit Go.Proofs.YtnehephjliankaaW.PrintWords

section
variable {H : Type} {enc : TypeId × Value → H} {P : Program} {W : World} {α β : Type}

def Opens (enc : TypeId × Value → H) (P : Program) (W : World) (t : TypeId) (d : Kd α) (Ok : α → Prop) : Prop :=
  ∀ (fuel : Nat) (cs : List Value) (x : DataW H × List MemPlace), DataW.trod enc P W 0 (fun _ => true) true fuel t cs = some x → (x.1.weights P t).all (· ≤ reachBytes) = true → ∃ a, d.K W a cs ∧ Ok a

theorem opens_int {t : TypeId} {k : IntKind} (ht : P.underlying t = some (.int k)) : Opens enc P W t (Kd.int k) (fun n => (Lit.int k n).wf = true) := by
  intro fuel cs x h _
  cases fuel with
  | zero => simp [DataW.trod] at h
  | succ fuel =>
    unfold DataW.trod at h
    rw [ht] at h
    split at h <;> simp_all
    obtain ⟨h, _⟩ := h
    exact ⟨_, rfl, h.2⟩
theorem opens_bool {t : TypeId} (ht : P.underlying t = some .bool) : Opens enc P W t Kd.bool (fun _ => True) := by
  intro fuel cs x h _
  cases fuel with
  | zero => simp [DataW.trod] at h
  | succ fuel =>
    unfold DataW.trod at h
    rw [ht] at h
    split at h <;> first | (cases h; exact ⟨_, rfl, trivial⟩) | simp_all
theorem opens_string {t : TypeId} (ht : P.underlying t = some .string) : Opens enc P W t Kd.string (fun s => s.size ≤ 140737488351232) := by
  intro fuel cs x h hs
  cases fuel with
  | zero => simp [DataW.trod] at h
  | succ fuel =>
    unfold DataW.trod at h
    rw [ht] at h
    split at h <;> simp_all
    obtain ⟨_, rfl⟩ := h
    simp [DataW.weights, reachBytes] at hs
    exact ⟨_, rfl, hs⟩
theorem opens_slice {t e : TypeId} {d : Kd α} {Ok : α → Prop} {B : Nat} (ht : P.underlying t = some (.slice e)) (hz : P.cellsOf e = d.sz) (hB : P.bytesOf e = B) (ho : Opens enc P W e d Ok) :
    Opens enc P W t (Kd.slice e d) (fun xs => xs.length * B ≤ 140737488351232 ∧ ∀ x ∈ xs, Ok x) := by
  intro fuel cs x h hs
  rcases Go.Deep.open_slice ht h with ⟨rfl, rfl⟩ | ⟨a, len, cap, m, n, D, Pl, rfl, hb, hl, hm, hmm, rfl, hx⟩
  · refine ⟨[], ⟨none, 0, rfl, Nat.le_refl _, ?_⟩, by simp, by simp⟩
    exact ⟨rfl, by simp, fun h => absurd h (by simp)⟩
  · simp only [if_true] at hmm
    subst hmm
    simp only [hz] at hx
    simp only [DataW.weights, ht, List.all_cons, List.all_append, Bool.and_eq_true, decide_eq_true_eq, List.length_map, List.length_range, hB] at hs
    obtain ⟨hs0, hs1, _⟩ := hs
    have hw : ∀ i, i < len → ((D i).weights P e).all (· ≤ reachBytes) = true := by
      intro i hi
      have gen : ∀ (l : List (DataW H)), (DataW.weightsAll P e l).all (· ≤ reachBytes) = true → ∀ y ∈ l, (y.weights P e).all (· ≤ reachBytes) = true := by
        intro l
        induction l with
        | nil => intro _ y hy; cases hy
        | cons z l ih =>
          intro hl y hy
          simp only [DataW.weightsAll, List.all_append, Bool.and_eq_true] at hl
          rcases List.mem_cons.1 hy with rfl | hy
          · exact hl.1
          · exact ih hl.2 y hy
      exact gen _ hs1 _ (List.mem_map.2 ⟨i, by simpa using hi, rfl⟩)
    have each : ∀ i, i < len → ∃ q : α × List Value, W.cells? 0 (a.add (i * d.sz)) d.sz = some q.2 ∧ d.K W q.1 q.2 ∧ Ok q.1 := by
      intro i hi
      obtain ⟨cs', h1, h2⟩ := hx i (by omega)
      obtain ⟨y, hy, hk⟩ := ho _ _ _ h2 (hw i hi)
      exact ⟨(y, cs'), h1, hy, hk⟩
    have choose : ∀ i : Fin len, ∃ q : α × List Value, W.cells? 0 (a.add (i.val * d.sz)) d.sz = some q.2 ∧ d.K W q.1 q.2 ∧ Ok q.1 := fun i => each i.val i.isLt
    refine ⟨(List.finRange len).map fun i => (Classical.choose (choose i)).1, ⟨some a, m, by simp, by simpa using hl, ?_⟩, ?_, ?_⟩
    · refine ⟨rfl, by simp; unfold maxLen at hm; omega, fun _ => ⟨a, rfl, ?_⟩⟩
      intro j p hj
      simp only [List.getElem?_map, Option.map_eq_some_iff] at hj
      obtain ⟨i, hi, rfl⟩ := hj
      have hij : i.val = j := by
        obtain ⟨h1, h2⟩ := List.getElem?_eq_some_iff.1 hi
        rw [← h2]; simp
      obtain ⟨h1, h2, _⟩ := Classical.choose_spec (choose i)
      obtain ⟨_, hlen, hcell⟩ := World.cells?_some h1
      refine ⟨_, hlen, h2, fun k u hk => ?_⟩
      have hk' : k < d.sz := by rw [← hlen]; exact (List.getElem?_eq_some_iff.1 hk).1
      have := hcell k hk'
      rw [hk, hij] at this
      rw [← Addr.add_add]; exact this
    · simp only [List.length_map, List.length_finRange]
      simp [reachBytes] at hs0
      exact Nat.le_trans (Nat.mul_le_mul_right _ (by omega)) hs0
    · intro x hx
      obtain ⟨i, _, rfl⟩ := List.mem_map.1 hx
      exact (Classical.choose_spec (choose i)).2.2
def OpensF (enc : TypeId × Value → H) (P : Program) (W : World) (fs : Array Field) (_i o : Nat) (d : Kd α) (Ok : α → Prop) : Prop :=
  ∀ (n : Nat) (cs : List Value) (xs : List (DataW H × List MemPlace)), cs.length = o + d.sz →
    (∀ (j : Nat) (f : Field), fs[j]? = some f → DataW.trod enc P W 0 (fun _ => true) true n f.type ((cs.drop f.offset).take (P.cellsOf f.type)) = xs[j]?) → xs.length = fs.size →
    (∀ (j : Nat) (f : Field) y, fs[j]? = some f → xs[j]? = some y → (y.1.weights P f.type).all (· ≤ reachBytes) = true) → ∃ a, d.K W a (cs.drop o) ∧ Ok a
theorem opensF_last {fs : Array Field} (i : Nat) {o : Nat} {f : Field} {d : Kd α} {Ok : α → Prop} (hf : fs[i]? = some f) (hoff : f.offset = o) (hz : P.cellsOf f.type = d.sz) (ho : Opens enc P W f.type d Ok) : OpensF enc P W fs i o d Ok := by
  intro n cs xs hl hx hxl hw
  have h1 := hx i f hf
  have hi : i < xs.length := by rw [hxl]; exact (Array.getElem?_eq_some_iff.1 hf).1
  rw [List.getElem?_eq_getElem hi, hoff, hz, List.take_of_length_le (by simp; omega)] at h1
  exact ho _ _ _ h1 (hw i f _ hf (List.getElem?_eq_getElem hi))
theorem opensF_cons {fs : Array Field} (i : Nat) {o : Nat} {f : Field} {d : Kd α} {d' : Kd β} {Ok : α → Prop} {Ok' : β → Prop} (hf : fs[i]? = some f) (hoff : f.offset = o) (hz : P.cellsOf f.type = d.sz) (ho : Opens enc P W f.type d Ok)
    (h' : OpensF enc P W fs (i + 1) (o + d.sz) d' Ok') : OpensF enc P W fs i o (Kd.pair d d') (fun x => Ok x.1 ∧ Ok' x.2) := by
  intro n cs xs hl hx hxl hw
  have h1 := hx i f hf
  have hi : i < xs.length := by rw [hxl]; exact (Array.getElem?_eq_some_iff.1 hf).1
  rw [List.getElem?_eq_getElem hi, hoff, hz] at h1
  obtain ⟨a, ha, hka⟩ := ho _ _ _ h1 (hw i f _ hf (List.getElem?_eq_getElem hi))
  obtain ⟨b, hb, hkb⟩ := h' n cs xs (by rw [hl]; show o + (d.sz + d'.sz) = _; omega) hx hxl hw
  refine ⟨(a, b), ⟨_, _, ?_, ha, hb⟩, hka, hkb⟩
  rw [← List.drop_drop, List.take_append_drop]
theorem opens_struct {t : TypeId} {fs : Array Field} {d : Kd α} {Ok : α → Prop} (f : β → α) (g : α → β) (hfg : ∀ a, f (g a) = a) (ht : P.underlying t = some (.struct fs)) (hz : P.cellsOf t = d.sz) (h' : OpensF enc P W fs 0 0 d Ok) :
    Opens enc P W t (Kd.iso d f) (fun b => Ok (f b)) := by
  intro fuel cs x h hs
  obtain ⟨xs, n, _, rfl, hl, hxl, hx⟩ := DataW.trod_struct ht h
  obtain ⟨a, ha, hka⟩ := h' n cs xs (by rw [hl, hz]; omega) hx hxl (fun j fj y hj hy => by
    rw [List.all_eq_true] at hs ⊢
    intro z hzz
    refine hs z ?_
    simp only [DataW.weights, ht]
    exact DataW.weights_mem_each (j := j) (t := fj.type) (d := y.1) (by simp [hj]) (by simp [hy]) z hzz)
  refine ⟨g a, ?_, by show Ok (f (g a)); rw [hfg]; exact hka⟩
  show d.K W (f (g a)) cs
  rw [hfg]
  exact ha
theorem opens_structP {t : TypeId} {fs : Array Field} {d : Kd α} {Ok : α → Prop} (ht : P.underlying t = some (.struct fs)) (hz : P.cellsOf t = d.sz) (h' : OpensF enc P W fs 0 0 d Ok) :
    Opens enc P W t d Ok := by
  have h := opens_struct (β := α) (fun a => a) (fun a => a) (fun _ => rfl) ht hz h'
  exact h
theorem opens_arg {t : TypeId} {d : Kd α} {Ok : α → Prop} {v : Value} {dd : DataW H} {p : List MemPlace} {ts : List TypeId} {ds : List (DataW H)} {j : Nat} (ho : Opens enc P W t d Ok)
    (hsz : (DataW.weightsEach P ts ds).all (· ≤ reachBytes) = true) (ht : ts[j]? = some t) (hd : ds[j]? = some dd) (h : DataW.Trod enc P W 0 (fun _ => true) true t v dd p) : ∃ a, d.K W a v.cells.toList ∧ Ok a := by
  obtain ⟨fuel, hf⟩ := h
  refine ho _ _ _ hf ?_
  rw [List.all_eq_true] at hsz ⊢
  exact fun z hz => hsz z (DataW.weights_mem_each ht hd z hz)
theorem okWide_struct {r : Reach} {b0 : Nat} {t : TypeId} {fs : Array Field} {v : Value} (ht : P.underlying t = some (.struct fs)) (h : Value.okWide P W r b0 t v) : ∃ cs, v = .agg cs := by
  unfold Value.okWide at h
  rw [ht] at h
  obtain ⟨cs, h, _⟩ := h
  exact ⟨cs, h⟩
theorem agg_of {cs : Array Value} {l : List Value} (h : cs.toList = l) : cs = l.toArray := by rw [← h]
end
end Go.Proofs.Ytnehephjliankaa.O

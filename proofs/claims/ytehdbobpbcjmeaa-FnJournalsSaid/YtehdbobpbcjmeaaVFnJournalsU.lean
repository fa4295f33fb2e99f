/- Words that the law's texts use (taken out of the print's words by a program of this session). No condition of its own. -/
import Derived.Test.YtehdbobpbcjmeaaVFnJournalsWWords
import Derived.Test.YtehdbobpbcjmeaaVFnJournalsWLast
import Derived.Test.YtehdbobpbcjmeaaVFnJournalsWApart
import Derived.Test.YtehdbobpbcjmeaaVFnJournalsWFoot
import Derived.Test.YtehdbobpbcjmeaaVFnJournalsWKept
import Derived.Test.YtehdbobpbcjmeaaVFnJournalsWShare
import Derived.Test.YtehdbobpbcjmeaaVFnJournalsWN
import Derived.Test.YtehdbobpbcjmeaaVFnJournalsWNEv
import Derived.Test.YtehdbobpbcjmeaaVFnJournalsWMore
namespace Go.Proofs.Ytehdbobpbcjmeaa.U
open Go.RowKit Go.Proofs.YtehdbobpbcjmeaaW.PrintWords

theorem wid {x : Int} (h : -9223372036854775808 ≤ x) (h' : x ≤ 9223372036854775807) : wrap64 x = x := by unfold wrap64; omega
theorem wsucc {n i : Nat} (h : i < n) (hn : n ≤ 281474976710656) : wrap64 ((i : Int) + 1) = ((i + 1 : Nat) : Int) := by unfold wrap64; omega
theorem wpred {i : Nat} (h : 0 < i) (hn : i ≤ 281474976710656) : wrap64 ((i : Int) - 1) = ((i - 1 : Nat) : Int) := by unfold wrap64; omega

variable {α β σ ρ : Type}

theorem Ev.get {g : Nat → Option α} {r : α} (h : Ev g r) : ∃ k, g k = some r := ⟨h.choose, h.choose_spec _ (Nat.le_refl _)⟩
theorem Ev.const {o : Option α} {r : α} (h : o = some r) : Ev (fun _ => o) r := ⟨0, fun _ _ => h⟩
theorem Ev.ite {c : Prop} [Decidable c] {g f : Nat → Option α} {r s : α} (h : c → Ev g r) (k : ¬ c → Ev f s) : Ev (fun n => if c then g n else f n) (if c then r else s) := by
  by_cases hc : c
  · simp only [if_pos hc]; exact h hc
  · simp only [if_neg hc]; exact k hc
theorem Ev.pos {c : Prop} [Decidable c] {g f : Nat → Option α} {r : α} (hc : c) (h : Ev g r) : Ev (fun n => if c then g n else f n) r := by simp only [if_pos hc]; exact h
theorem Ev.neg {c : Prop} [Decidable c] {g f : Nat → Option α} {r : α} (hc : ¬ c) (h : Ev f r) : Ev (fun n => if c then g n else f n) r := by simp only [if_neg hc]; exact h
theorem Ev.bindc {o : Option β} {f : Nat → β → Option α} {b : β} {r : α} (h : o = some b) (k : Ev (fun n => f n b) r) : Ev (fun n => o.bind (f n)) r := by subst h; exact k
theorem Ev.at {g : Nat → Option α} {r : α} (n : Nat) (h : ∀ k, g (k + n) = some r) : Ev g r := ⟨n, fun k hk => by obtain ⟨m, rfl⟩ : ∃ m, k = m + n := ⟨k - n, by omega⟩; exact h m⟩
theorem Ev.succ {g : Nat → Option α} {r : α} (h : Ev (fun k => g (k + 1)) r) : Ev g r := Ev.step (fun _ => rfl) h

def run (f : σ → α → ρ ⊕ σ) : List α → σ → ρ ⊕ σ
  | [], s => .inr s
  | a :: l, s => match f s a with
    | .inl r => .inl r
    | .inr s' => run f l s'
theorem ev_find (l : Nat → Int → Option ρ) (x : List α) (f : α → Option ρ) (fin : ρ)
    (stop : Ev (fun k => l k (x.length : Int)) fin)
    (out : ∀ (i : Nat) (hi : i < x.length) r, f x[i] = some r → Ev (fun k => l k (i : Int)) r)
    (on : ∀ (i : Nat) (hi : i < x.length), f x[i] = none → ∀ r, Ev (fun k => l k ((i + 1 : Nat) : Int)) r → Ev (fun k => l k (i : Int)) r) :
    Ev (fun k => l k 0) ((x.findSome? f).getD fin) := by
  have key : ∀ (d i : Nat), x.length - i = d → i ≤ x.length → Ev (fun k => l k (i : Int)) (((x.drop i).findSome? f).getD fin) := by
    intro d
    induction d with
    | zero =>
      intro i hd hi
      have : i = x.length := by omega
      subst this
      rw [List.drop_length]
      exact stop
    | succ d ih =>
      intro i hd hi
      have hl : i < x.length := by omega
      rw [List.drop_eq_getElem_cons hl, List.findSome?_cons]
      cases h : f x[i] with
      | some r => exact out i hl r h
      | none => exact on i hl h _ (ih (i + 1) (by omega) (by omega))
  have := key x.length 0 (by omega) (by omega)
  simpa using this
theorem ev_findI (l : Nat → Int → Option ρ) (n : Nat) (f : Nat → Option ρ) (fin : ρ)
    (stop : Ev (fun k => l k (n : Int)) fin)
    (out : ∀ (i : Nat), i < n → ∀ r, f i = some r → Ev (fun k => l k (i : Int)) r)
    (on : ∀ (i : Nat), i < n → f i = none → ∀ r, Ev (fun k => l k ((i + 1 : Nat) : Int)) r → Ev (fun k => l k (i : Int)) r) :
    Ev (fun k => l k 0) (((List.range n).findSome? f).getD fin) := by
  have h := ev_find l (List.range n) f fin (by simpa using stop) (fun i hi r h => out i (by simpa using hi) r (by simpa using h)) (fun i hi h => on i (by simpa using hi) (by simpa using h))
  exact h
theorem ev_iter (l : Nat → σ → Int → Option ρ) (n : Nat) (st : Nat → σ) (fin : ρ)
    (stop : Ev (fun k => l k (st n) (n : Int)) fin)
    (on : ∀ (i : Nat), i < n → ∀ r, Ev (fun k => l k (st (i + 1)) ((i + 1 : Nat) : Int)) r → Ev (fun k => l k (st i) (i : Int)) r) :
    Ev (fun k => l k (st 0) 0) fin := by
  have key : ∀ (d i : Nat), n - i = d → i ≤ n → Ev (fun k => l k (st i) (i : Int)) fin := by
    intro d
    induction d with
    | zero =>
      intro i hd hi
      have : i = n := by omega
      subst this
      exact stop
    | succ d ih =>
      intro i hd hi
      exact on i (by omega) _ (ih (i + 1) (by omega) (by omega))
  exact key n 0 (by omega) (by omega)
def over (x : List α) (e : Nat → α) (i : Nat) : List α := (List.range i).map e ++ x.drop i
theorem find_guard (p : α → Bool) (e f : ρ) (l : List α) :
    ((l.findSome? fun a => if p a = true then none else some e).getD f) = if l.all p = true then f else e := by
  induction l with
  | nil => simp
  | cons a l ih => cases h : p a <;> simp [h, ih]
theorem rd_get (x : List Int) (i : Nat) (h : i < x.length) : rd x (i : Int) = x[i] := by simp [rd, List.getD_eq_getElem?_getD, h]
end Go.Proofs.Ytehdbobpbcjmeaa.U

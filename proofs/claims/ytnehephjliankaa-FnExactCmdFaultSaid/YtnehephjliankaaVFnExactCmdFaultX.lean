/- Words that the law's texts use (taken out of the print's words by a program of this session). No condition of its own. -/
import Derived.Test.YtnehephjliankaaVFnExactCmdFaultWWords
import Derived.Test.YtnehephjliankaaVFnExactCmdFaultWLast
import Derived.Test.YtnehephjliankaaVFnExactCmdFaultWApart
import Derived.Test.YtnehephjliankaaVFnExactCmdFaultWFoot
import Derived.Test.YtnehephjliankaaVFnExactCmdFaultWKept
import Derived.Test.YtnehephjliankaaVFnExactCmdFaultWShare
import Derived.Test.YtnehephjliankaaVFnExactCmdFaultWN
import Derived.Test.YtnehephjliankaaVFnExactCmdFaultWMore
namespace Go.Proofs.YtnehephjliankaaW.PrintWords
open Go.RowKit
variable {α : Type} {d : Kd α} {w : World} {xs : List α}
theorem Kd.C_elem {ad : Addr} {n : Nat} (h : d.C w (some ad) n xs) (i : Int) (h0 : 0 ≤ i) (h1 : i < (xs.length : Int)) : d.C w (some (ad.add (i.toNat * d.sz))) (xs.drop i.toNat).length (xs.drop i.toNat) := by
  obtain ⟨hl, hn, hc⟩ := h
  refine ⟨rfl, by rw [List.length_drop]; omega, fun _ => ⟨_, rfl, fun j p hj => ?_⟩⟩
  obtain ⟨ad', e, hc⟩ := hc (by omega)
  cases e
  rw [List.getElem?_drop] at hj
  obtain ⟨c, hcl, hk, hcell⟩ := hc _ _ hj
  refine ⟨c, hcl, hk, fun k u hu => ?_⟩
  rw [Addr.add_add, ← Nat.add_assoc, ← Nat.add_mul]
  exact hcell k u hu
theorem Kd.C_box {g : Nat} {t : TypeId} {cells : Array Value} {x : α} (hb : w.heap[g]? = some (.cells cells t (0, 0))) (h : d.K w x cells.toList) : d.C w (some ⟨g, 0, none⟩) 1 [x] := by
  refine ⟨rfl, by omega, fun _ => ⟨_, rfl, fun j p hj => ?_⟩⟩
  have hj0 : j = 0 := by
    have := (List.getElem?_eq_some_iff.1 hj).1
    simp at this
    exact this
  subst hj0
  cases Option.some.inj hj
  refine ⟨cells.toList, d.K_len h, h, fun k u hu => ?_⟩
  rw [Nat.zero_mul, Nat.zero_add]
  have hk : cells[k]? = some u := by rw [← Array.getElem?_toList]; exact hu
  rw [show (⟨g, 0, none⟩ : Addr).add k = ⟨g, k, none⟩ by unfold Addr.add; split <;> simp_all]
  rw [blk_cell hb k]
  exact hk
theorem blk_cells14 {w : World} {g : Nat} {T : TypeId} {v0 v1 v2 v3 v4 v5 v6 v7 v8 v9 v10 v11 v12 v13 : Value} (h : w.heap[g]? = some (.cells #[v0, v1, v2, v3, v4, v5, v6, v7, v8, v9, v10, v11, v12, v13] T (0, 0))) :
    w.cell? ⟨g, 0, none⟩ = some v0 ∧ w.cell? ⟨g, 1, none⟩ = some v1 ∧ w.cell? ⟨g, 2, none⟩ = some v2 ∧ w.cell? ⟨g, 3, none⟩ = some v3 ∧ w.cell? ⟨g, 4, none⟩ = some v4 ∧ w.cell? ⟨g, 5, none⟩ = some v5 ∧ w.cell? ⟨g, 6, none⟩ = some v6 ∧ w.cell? ⟨g, 7, none⟩ = some v7 ∧ w.cell? ⟨g, 8, none⟩ = some v8 ∧ w.cell? ⟨g, 9, none⟩ = some v9 ∧ w.cell? ⟨g, 10, none⟩ = some v10 ∧ w.cell? ⟨g, 11, none⟩ = some v11 ∧ w.cell? ⟨g, 12, none⟩ = some v12 ∧ w.cell? ⟨g, 13, none⟩ = some v13 := ⟨(blk_cell h 0).trans rfl, (blk_cell h 1).trans rfl, (blk_cell h 2).trans rfl, (blk_cell h 3).trans rfl, (blk_cell h 4).trans rfl, (blk_cell h 5).trans rfl, (blk_cell h 6).trans rfl, (blk_cell h 7).trans rfl, (blk_cell h 8).trans rfl, (blk_cell h 9).trans rfl, (blk_cell h 10).trans rfl, (blk_cell h 11).trans rfl, (blk_cell h 12).trans rfl, (blk_cell h 13).trans rfl⟩
theorem blk_frozen14 {w : World} {g : Nat} {T : TypeId} {cs : Array Value} (h : w.heap[g]? = some (.cells cs T (0, 0))) :
    w.frozen? ⟨g, 0, none⟩ = false ∧ w.frozen? ⟨g, 1, none⟩ = false ∧ w.frozen? ⟨g, 2, none⟩ = false ∧ w.frozen? ⟨g, 3, none⟩ = false ∧ w.frozen? ⟨g, 4, none⟩ = false ∧ w.frozen? ⟨g, 5, none⟩ = false ∧ w.frozen? ⟨g, 6, none⟩ = false ∧ w.frozen? ⟨g, 7, none⟩ = false ∧ w.frozen? ⟨g, 8, none⟩ = false ∧ w.frozen? ⟨g, 9, none⟩ = false ∧ w.frozen? ⟨g, 10, none⟩ = false ∧ w.frozen? ⟨g, 11, none⟩ = false ∧ w.frozen? ⟨g, 12, none⟩ = false ∧ w.frozen? ⟨g, 13, none⟩ = false := ⟨blk_frozen h 0, blk_frozen h 1, blk_frozen h 2, blk_frozen h 3, blk_frozen h 4, blk_frozen h 5, blk_frozen h 6, blk_frozen h 7, blk_frozen h 8, blk_frozen h 9, blk_frozen h 10, blk_frozen h 11, blk_frozen h 12, blk_frozen h 13⟩
end Go.Proofs.YtnehephjliankaaW.PrintWords
namespace Go.Proofs.YtnehephjliankaaW.PrintLast
open Go.RowKit
variable {P : Program} {Q : Exit → Act → World → Prop} {ops : Array Oper}
section
variable {P : Program} {Q : Exit → Act → World → Prop} {ops : Array Oper} {md : Region.Mode} {S : World → Prop} {ds : List Nat} {i fuel : Nat} {N : Option Tmp} {oi : Oper} {v : Value} {l : Array Bool} {a : Act} {w : World}
theorem pu_ (hi : ops[i]? = some oi) (hN : oi.dst = N) (hc : anyB md ops l (l.setIfInBounds i true) i = true) (hQ : ∀ c a w, Q (.panic c) (a.put oi.dst v) w → Q (.panic c) a w) (hy : Yields P ops oi v a) {a' : Act} (ha : a.put N v = a')
    (h : wpAnyLast P md ops Q S ds fuel (l.setIfInBounds i true) a' w) : wpAnyLast P md ops Q S ds (fuel + 1) l a w := pure_ _ hi hN hc hQ hy ha h
theorem ta_ (hi : ops[i]? = some oi) (hN : oi.dst = N) (hc : takeB md ops ds l (l.setIfInBounds i true) i = true) (hQ : ∀ c a w, Q (.panic c) (a.put oi.dst v) w → Q (.panic c) a w) (hy : YieldsIf P ops S oi v a) (hS : S w) {a' : Act} (ha : a.put N v = a')
    (h : wpAnyLast P md ops Q S ds fuel (l.setIfInBounds i true) a' w) : wpAnyLast P md ops Q S ds (fuel + 1) l a w := take_ _ hi hN hc hQ hy hS ha h
theorem on_ (hi : ops[i]? = some oi) (hN : oi.dst = N) (hc : readyB md ops l (l.setIfInBounds i true) i = true) (hd : i ∉ ds)
    (h : ∀ K : Act → World → Prop, Shut (∀ a' w', S w' → (S w' → wpAnyLast P md ops Q S ds fuel (l.setIfInBounds i true) a' w') → K a' w') → if Region.wanted oi (yielded ops a.tmps) = true then Oper.wp P oi a w K Q else K (a.put N undef) w) : wpAnyLast P md ops Q S ds (fuel + 1) l a w := one_ _ hi hN hc hd h
end
end Go.Proofs.YtnehephjliankaaW.PrintLast

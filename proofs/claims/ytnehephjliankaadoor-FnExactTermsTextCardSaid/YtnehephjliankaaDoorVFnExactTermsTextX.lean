/- Words that the law's texts use (taken out of the print's words by a program of this session). No condition of its own. -/
import Derived.Test.YtnehephjliankaaDoorVFnExactTermsTextWWords
import Derived.Test.YtnehephjliankaaDoorVFnExactTermsTextWLast
import Derived.Test.YtnehephjliankaaDoorVFnExactTermsTextWApart
import Derived.Test.YtnehephjliankaaDoorVFnExactTermsTextWFoot
import Derived.Test.YtnehephjliankaaDoorVFnExactTermsTextWKept
import Derived.Test.YtnehephjliankaaDoorVFnExactTermsTextWShare
import Derived.Test.YtnehephjliankaaDoorVFnExactTermsTextWN
import Derived.Test.YtnehephjliankaaDoorVFnExactTermsTextWMore
namespace Go.Proofs.YtnehephjliankaaDoorW.PrintWords
open Go.RowKit
variable {α : Type} {d : Kd α} {w : World} {xs : List α}
theorem Kd.C_elem {ad : Addr} {n : Nat} (h : d.C w (some ad) n xs) (i : Int) (h0 : 0 ≤ i) (h1 : i < (xs.length : Int)) : d.C w (some (ad.add (i.toNat * d.sz))) (xs.drop i.toNat).length (xs.drop i.toNat) := by
  obtain ⟨hl, hn, hc⟩ := h
  refine ⟨rfl, by rw [List.length_drop]; omega, fun _ => ⟨_, rfl, fun j p hj => ?_⟩⟩
  obtain ⟨ad', e, hc⟩ := hc (by omega)
  cases e
  rw [List.getElem?_drop] at hj
  obtain ⟨c, hcl, hk, hcell⟩ := hc _ _ hj
  refine ⟨c, hcl, hk, fun k u hu => ?_⟩
  rw [Addr.add_add, ← Nat.add_assoc, ← Nat.add_mul]
  exact hcell k u hu
end Go.Proofs.YtnehephjliankaaDoorW.PrintWords
namespace Go.Proofs.YtnehephjliankaaDoorW.PrintLast
open Go.RowKit
variable {P : Program} {Q : Exit → Act → World → Prop} {ops : Array Oper}
section
variable {P : Program} {Q : Exit → Act → World → Prop} {ops : Array Oper} {md : Region.Mode} {S : World → Prop} {ds : List Nat} {i fuel : Nat} {N : Option Tmp} {oi : Oper} {v : Value} {l : Array Bool} {a : Act} {w : World}
theorem pu_ (hi : ops[i]? = some oi) (hN : oi.dst = N) (hc : anyB md ops l (l.setIfInBounds i true) i = true) (hQ : ∀ c a w, Q (.panic c) (a.put oi.dst v) w → Q (.panic c) a w) (hy : Yields P ops oi v a) {a' : Act} (ha : a.put N v = a')
    (h : wpAnyLast P md ops Q S ds fuel (l.setIfInBounds i true) a' w) : wpAnyLast P md ops Q S ds (fuel + 1) l a w := pure_ _ hi hN hc hQ hy ha h
theorem ta_ (hi : ops[i]? = some oi) (hN : oi.dst = N) (hc : takeB md ops ds l (l.setIfInBounds i true) i = true) (hQ : ∀ c a w, Q (.panic c) (a.put oi.dst v) w → Q (.panic c) a w) (hy : YieldsIf P ops S oi v a) (hS : S w) {a' : Act} (ha : a.put N v = a')
    (h : wpAnyLast P md ops Q S ds fuel (l.setIfInBounds i true) a' w) : wpAnyLast P md ops Q S ds (fuel + 1) l a w := take_ _ hi hN hc hQ hy hS ha h
theorem on_ (hi : ops[i]? = some oi) (hN : oi.dst = N) (hc : readyB md ops l (l.setIfInBounds i true) i = true) (hd : i ∉ ds)
    (h : ∀ K : Act → World → Prop, Shut (∀ a' w', S w' → (S w' → wpAnyLast P md ops Q S ds fuel (l.setIfInBounds i true) a' w') → K a' w') → if Region.wanted oi (yielded ops a.tmps) = true then Oper.wp P oi a w K Q else K (a.put N undef) w) : wpAnyLast P md ops Q S ds (fuel + 1) l a w := one_ _ hi hN hc hd h
end
end Go.Proofs.YtnehephjliankaaDoorW.PrintLast

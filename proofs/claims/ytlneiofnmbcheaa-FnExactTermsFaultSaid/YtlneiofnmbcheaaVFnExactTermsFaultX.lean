/- Words that the law's texts use (taken out of the print's words by a program of this session). No condition of its own. -/
import Derived.Test.YtlneiofnmbcheaaVFnExactTermsFaultWWords
import Derived.Test.YtlneiofnmbcheaaVFnExactTermsFaultWLast
import Derived.Test.YtlneiofnmbcheaaVFnExactTermsFaultWApart
import Derived.Test.YtlneiofnmbcheaaVFnExactTermsFaultWFoot
import Derived.Test.YtlneiofnmbcheaaVFnExactTermsFaultWKept
import Derived.Test.YtlneiofnmbcheaaVFnExactTermsFaultWShare
import Derived.Test.YtlneiofnmbcheaaVFnExactTermsFaultWN
import Derived.Test.YtlneiofnmbcheaaVFnExactTermsFaultWMore
namespace Go.Proofs.YtlneiofnmbcheaaW.PrintWords
open Go.RowKit
variable {α : Type} {d : Kd α} {w : World} {xs : List α}
theorem Kd.C_elem {ad : Addr} {n : Nat} (h : d.C w (some ad) n xs) (i : Int) (h0 : 0 ≤ i) (h1 : i < (xs.length : Int)) : d.C w (some (ad.add (i.toNat * d.sz))) (xs.drop i.toNat).length (xs.drop i.toNat) := by
  obtain ⟨hl, hn, hc⟩ := h
  refine ⟨rfl, by rw [List.length_drop]; omega, fun _ => ⟨_, rfl, fun j p hj => ?_⟩⟩
  obtain ⟨ad', e, hc⟩ := hc (by omega)
  cases e
  rw [List.getElem?_drop] at hj
  obtain ⟨c, hcl, hk, hcell⟩ := hc _ _ hj
  refine ⟨c, hcl, hk, fun k u hu => ?_⟩
  rw [Addr.add_add, ← Nat.add_assoc, ← Nat.add_mul]
  exact hcell k u hu
end Go.Proofs.YtlneiofnmbcheaaW.PrintWords
namespace Go.Proofs.YtlneiofnmbcheaaW.PrintLast
open Go.RowKit
end Go.Proofs.YtlneiofnmbcheaaW.PrintLast

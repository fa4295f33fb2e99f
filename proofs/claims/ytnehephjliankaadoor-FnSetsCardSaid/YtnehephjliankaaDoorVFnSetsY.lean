/- Words that the law's texts use (taken out of the print's words by a program of this session). No condition of its own. -/
import Derived.Test.YtnehephjliankaaDoorVFnSetsWWords
import Derived.Test.YtnehephjliankaaDoorVFnSetsWLast
import Derived.Test.YtnehephjliankaaDoorVFnSetsWApart
import Derived.Test.YtnehephjliankaaDoorVFnSetsWFoot
import Derived.Test.YtnehephjliankaaDoorVFnSetsWKept
import Derived.Test.YtnehephjliankaaDoorVFnSetsWShare
import Derived.Test.YtnehephjliankaaDoorVFnSetsWN
import Derived.Test.YtnehephjliankaaDoorVFnSetsWMore
import Derived.Test.YtnehephjliankaaDoorVFnSetsX
import Derived.Lib.ConvBytes
namespace Go.Proofs.YtnehephjliankaaDoorW.PrintWords
open Go.RowKit
theorem ck_ {w w1 : World} {a : Addr} {v : Value} (hb : Below w.heap.size w w1) (h : w.cell? a = some v) : w1.cell? a = some v := (hb.cell (World.block_lt_of_cell? w _ h)).trans h
instance up_refl (w : World) : Nonempty (Below w.heap.size w w) := ⟨Below.refl _ _⟩
instance up_alloc (w w1 : World) (o : Obj) [h : Nonempty (Below w.heap.size w w1)] : Nonempty (Below w.heap.size w (w1.alloc o)) := h.elim fun h => ⟨below_alloc h o⟩
instance up_drew (w w1 : World) [h : Nonempty (Below w.heap.size w w1)] : Nonempty (Below w.heap.size w w1.drew) := h.elim fun h => ⟨below_drew h⟩
instance up_drewN (w w1 : World) (n : Nat) [h : Nonempty (Below w.heap.size w w1)] : Nonempty (Below w.heap.size w (w1.drewN n)) := h.elim fun h => ⟨pw_below_drewN h n⟩
theorem up_ {w w1 : World} [h : Nonempty (Below w.heap.size w w1)] : Below w.heap.size w w1 := h.elim id
theorem HB_up {w0 w w1 : World} (h : Below w0.heap.size w0 w) [Nonempty (Below w.heap.size w w1)] : Below w0.heap.size w0 w1 := below_step h up_
theorem blk_up {w w1 : World} {g : Nat} {o : Obj} (h : w.heap[g]? = some o) [Nonempty (Below w.heap.size w w1)] : w1.heap[g]? = some o := blk_below h up_
section
variable {α : Type} {d : Kd α} {w w1 : World} {A : Option Addr} {n : Nat} {xs : List α} {e base : Nat} {ok : Nat → Prop} {v : Value} [Nonempty (Below w.heap.size w w1)]
theorem C_up (h : d.C w A n xs) : d.C w1 A n xs := Kd.C_below h up_
theorem R_up (h : d.R e w base ok v xs) : d.R e w1 base ok v xs := Kd.R_below h up_
end
theorem bytesWorld_below {w0 W : World} {base e : Nat} (s : ByteArray) (HB : Below base w0 W) (hbase : base ≤ W.heap.size) : Below base w0 (Lib.bytesWorld W e s) :=
  HB.trans ⟨rfl, rfl, rfl, by rw [Lib.bytesWorld_size]; omega, fun k hk => Lib.bytesWorld_at_old W e s k (by omega)⟩
namespace Kd
section
variable {P : Program} {ops : Array Oper} {rest : List Oper} {o : Oper} {a : Act} {Q : Exit → Act → World → Prop} {Kc : Act → World → Prop}
theorem conv_run {W : World} {src dst e : Nat} {x : Operand} (ho : o.op = .convert src dst x) (hs : P.underlying src = some .string) (hd : P.underlying dst = some (.slice e)) (he : P.underlying e = some (.int .u8)) (s : ByteArray) (hx : a.eval x = .string s) :
    (execOp a.eval o).run P W = .ok (.value (.slice (some ⟨W.heap.size, 0, none⟩) s.size (grownCap W s.size 0 e))) (Lib.bytesWorld W e s) := by
  have hr := Lib.run_convert_string_bytes (P := P) W src dst e s hs hd he
  unfold execOp
  simp only [ho, hx, Sem.run_bind, hr, Result.andThen_ok, Sem.run_pure]
end
end Kd
section
end
section
end
end Go.Proofs.YtnehephjliankaaDoorW.PrintWords

/- Words that the law's texts use (taken out of the print's words by a program of this session). No condition of its own. -/
import Derived.Test.YtnehephjliankaaVFnExactCmdFaultWWords
import Derived.Test.YtnehephjliankaaVFnExactCmdFaultWLast
import Derived.Test.YtnehephjliankaaVFnExactCmdFaultWApart
import Derived.Test.YtnehephjliankaaVFnExactCmdFaultWFoot
import Derived.Test.YtnehephjliankaaVFnExactCmdFaultWKept
import Derived.Test.YtnehephjliankaaVFnExactCmdFaultWShare
import Derived.Test.YtnehephjliankaaVFnExactCmdFaultWN
import Derived.Test.YtnehephjliankaaVFnExactCmdFaultWMore
import Derived.Test.YtnehephjliankaaVFnExactCmdFaultX
import Derived.Lib.ConvBytes
namespace Go.Proofs.YtnehephjliankaaW.PrintWords
open Go.RowKit
theorem ck_ {w w1 : World} {a : Addr} {v : Value} (hb : Below w.heap.size w w1) (h : w.cell? a = some v) : w1.cell? a = some v := (hb.cell (World.block_lt_of_cell? w _ h)).trans h
instance up_refl (w : World) : Nonempty (Below w.heap.size w w) := ⟨Below.refl _ _⟩
instance up_alloc (w w1 : World) (o : Obj) [h : Nonempty (Below w.heap.size w w1)] : Nonempty (Below w.heap.size w (w1.alloc o)) := h.elim fun h => ⟨below_alloc h o⟩
instance up_drew (w w1 : World) [h : Nonempty (Below w.heap.size w w1)] : Nonempty (Below w.heap.size w w1.drew) := h.elim fun h => ⟨below_drew h⟩
instance up_drewN (w w1 : World) (n : Nat) [h : Nonempty (Below w.heap.size w w1)] : Nonempty (Below w.heap.size w (w1.drewN n)) := h.elim fun h => ⟨pw_below_drewN h n⟩
theorem up_ {w w1 : World} [h : Nonempty (Below w.heap.size w w1)] : Below w.heap.size w w1 := h.elim id
theorem HB_up {w0 w w1 : World} (h : Below w0.heap.size w0 w) [Nonempty (Below w.heap.size w w1)] : Below w0.heap.size w0 w1 := below_step h up_
theorem blk_up {w w1 : World} {g : Nat} {o : Obj} (h : w.heap[g]? = some o) [Nonempty (Below w.heap.size w w1)] : w1.heap[g]? = some o := blk_below h up_
section
variable {α : Type} {d : Kd α} {w w1 : World} {A : Option Addr} {n : Nat} {xs : List α} {e base : Nat} {ok : Nat → Prop} {v : Value} [Nonempty (Below w.heap.size w w1)]
theorem C_up (h : d.C w A n xs) : d.C w1 A n xs := Kd.C_below h up_
theorem R_up (h : d.R e w base ok v xs) : d.R e w1 base ok v xs := Kd.R_below h up_
theorem S_up (h : d.S e w base ok v xs) : d.S e w1 base ok v xs := Kd.S_below h up_
end
namespace Kd
section
end
end Kd
section
end
section
end
theorem od_ {p : Prop} [Decidable p] (h : decide p = true := by first | (with_reducible assumption) | assumption) : p := of_decide_eq_true h
theorem vl_ {p : Prop} (h : p := by first | rfl | (simp; done) | (simp [*]; done) | (simp; generalize ByteArray.toList _ = zq_; cases zq_ <;> rfl)) : p := h
theorem dr_ {p : Prop} (h : p := by repeat (first | exact Drawn0.refl _ | apply Drawn0.step)) : p := h
theorem le_ {p : Prop} (h : p := by first | omega | exact Nat.le_refl _) : p := h
theorem ve_ {p : Prop} (h : p := by first | rfl | (simp [errW_none, errW_some] <;> rfl) | (simp [*, errW_none, errW_some] <;> rfl)) : p := h
theorem hb_ {p : Prop} (h : p := by repeat (first | (with_reducible first | exact HB.out | apply below_alloc | apply pw_below_drewN | apply below_drew1) | exact HB.out)) : p := h
theorem hs_ {p : Prop} (h : p := by repeat (first | (with_reducible first | exact HB.out | apply below_alloc | apply pw_below_drewN | apply below_drew1 | refine below_set ?_ (Aside0.out (by assumption))) | exact HB.out)) : p := h
open Go.Proofs.YtnehephjliankaaW.PrintLast in
theorem goesY_ {P : Program} {ops : Array Oper} {Q : Exit → Act → World → Prop} {rest : List Oper} {oi : Oper} {a : Act} {w : World} (N : Option Tmp) {f : FuncId} {fn : Func} {as : Array Operand} {ts : Array TypeId} (hf : P.funcs[f]? = some fn) (args : Array Value)
    (hop : oi.op = .call { callee := .value (.func f), args := as, argTypes := ts })
    (h : Calls P f args w fun e w' => ∃ v, e = .returned v ∧ wpList P ops Q rest (a.put N v) w') (hd : oi.dst = N := by rfl) (hg : oi.guard = none := by rfl) (hname : (fn.name == "runtime.NumGoroutine") = false := by kernel_rfl) (hb : fn.body.isSome = true := by rfl)
    (hargs : as.map a.eval = args := by (try simp only [List.map_toArray, List.map_cons, List.map_nil]); first | done | rfl | (simp only [List.length_drop, List.length_take]; rfl)) : wpList P ops Q (oi :: rest) a w := goesL_ N hd hg hf hname hb args hop hargs h
end Go.Proofs.YtnehephjliankaaW.PrintWords

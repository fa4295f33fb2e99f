/- Words that the law's texts use (taken out of the print's words by a program of this session). No condition of its own. -/
import Derived.Test.YtehdbobpbcjmeaaVFnJournalsWWords
import Derived.Test.YtehdbobpbcjmeaaVFnJournalsWLast
import Derived.Test.YtehdbobpbcjmeaaVFnJournalsWApart
import Derived.Test.YtehdbobpbcjmeaaVFnJournalsWFoot
import Derived.Test.YtehdbobpbcjmeaaVFnJournalsWKept
import Derived.Test.YtehdbobpbcjmeaaVFnJournalsWShare
import Derived.Test.YtehdbobpbcjmeaaVFnJournalsWN
import Derived.Test.YtehdbobpbcjmeaaVFnJournalsWRepsOne
import Derived.Test.YtehdbobpbcjmeaaVFnJournalsWNEv
import Derived.Test.YtehdbobpbcjmeaaVFnJournalsWMore
import Derived.Test.YtehdbobpbcjmeaaVFnJournalsX
import Derived.Test.YtehdbobpbcjmeaaVFnJournalsY
namespace Go.Proofs.YtehdbobpbcjmeaaW.PrintWords
open Go.RowKit
section
variable {α β : Type}
theorem bd_ {o : Option α} {f : α → Option β} {b : β} (h : o.bind f = some b) : ∃ a, Aside0 (o = some a) ∧ f a = some b := by
  obtain ⟨a, h1, h2⟩ := Option.bind_eq_some_iff.mp h
  exact ⟨a, ⟨h1⟩, h2⟩
theorem nb_ {e : α} {f : α → Option β} {b : β} (h : (some e).bind f = some b) : ∃ y, Aside0 (y = e) ∧ f y = some b := ⟨e, ⟨rfl⟩, h⟩
theorem ifn_ {c : Prop} [Decidable c] {o : Option β} {b : β} (h : (if c then o else none) = some b) : Aside0 c ∧ o = some b := by
  by_cases hc : c
  · exact ⟨⟨hc⟩, by rw [if_pos hc] at h; exact h⟩
  · rw [if_neg hc] at h; exact absurd h (by simp)
theorem ifc_ {c : Prop} [Decidable c] {o : Option β} {b : β} (h : (if c then o else none) = some b) : c ∧ o = some b := ⟨(ifn_ h).1.out, (ifn_ h).2⟩
end
section
variable {α β : Type} {d : Kd α} {d' : Kd β} {e e' : TypeId} {base base' g gb : Nat} {ok ok' : Nat → Prop} {u v v1 : Value} {xs : List α} {ys : List β} {w0 w W w1 : World} {o : Obj} {cs : Array Value} {t : TypeId} {row : Option Nat}
theorem el_ (h : Aside0 (d.R e w base ok u xs)) (ho : d'.R e' w1 W.heap.size ok' v ys) (hb : Below W.heap.size W w1) [Nonempty (Below w.heap.size w W)] : Aside0 (d.R e w1 base (fun k => ok k ∧ some k ≠ v.ownBlock) u xs) := ⟨Kd.R_elder' (R_up h.out) (Kd.R_base ho) hb⟩
theorem ev_ (h : Aside0 (d.V e w base ok u xs)) (ho : d'.R e' w1 W.heap.size ok' v ys) (hb : Below W.heap.size W w1) [Nonempty (Below w.heap.size w W)] : Aside0 (d.V e w1 base (fun k => ok k ∧ some k ≠ v.ownBlock) u xs) := ⟨Kd.V_elder' (V_up h.out) (Kd.R_base ho) hb⟩
theorem rb_ (h : Aside0 (d.R e w base ok u xs)) (hb : Below W.heap.size W w1) [Nonempty (Below w.heap.size w W)] : Aside0 (d.R e w1 base ok u xs) := ⟨Kd.R_below (R_up h.out) hb⟩
theorem vb_ (h : Aside0 (d.V e w base ok u xs)) (hb : Below W.heap.size W w1) [Nonempty (Below w.heap.size w W)] : Aside0 (d.V e w1 base ok u xs) := ⟨Kd.V_below (V_up h.out) hb⟩
theorem bb_ (h : Aside0 (w.heap[g]? = some o)) (hb : Below W.heap.size W w1) [Nonempty (Below w.heap.size w W)] : Aside0 (w1.heap[g]? = some o) := ⟨blk_below (blk_up h.out) hb⟩
theorem bk_ (h : Aside0 (w.heap[gb]? = some o)) (hk : KeepBut W w1 g none) (hn : Aside0 (gb ≠ g)) [Nonempty (Below w.heap.size w W)] : Aside0 (w1.heap[gb]? = some o) := ⟨KeepBut.blk hk (blk_up h.out) hn.out (by simp)⟩
theorem bs_ (h : Aside0 (Below w0.heap.size w0 w)) (hb : Below W.heap.size W w1) [Nonempty (Below w.heap.size w W)] : Aside0 (Below w0.heap.size w0 w1) := ⟨below_step (HB_up h.out) hb⟩
theorem bt_ (_h0 : Aside0 (Below w0.heap.size w0 w)) (hb : Below W.heap.size W w1) (h : Below w0.heap.size w0 W) : Aside0 (Below w0.heap.size w0 w1) := ⟨below_step h hb⟩
theorem bg_ (h : Aside0 (w.heap[g]? = some (.cells cs t (0, 0)))) (hg : W.grownBy w1 v.ownBlock) (ho : Aside0 (d.R e w base ok v xs)) [Nonempty (Below w.heap.size w W)] (ht : e ≠ t := by decide) : Aside0 (w1.heap[g]? = some (.cells cs t (0, 0))) := ⟨blk_grown (blk_up h.out) hg (Kd.R_ne ho.out h.out ht)⟩
theorem ge_ (_h0 : Aside0 (Below w0.heap.size w0 w)) (hg : g = W.heap.size) (h : Below w0.heap.size w0 W) : Aside0 (w0.heap.size ≤ g) := ⟨by rw [hg]; exact below_size h⟩
theorem gu_ (hg : g = W.heap.size) (h : Aside0 (Below w0.heap.size w0 w)) [Nonempty (Below w.heap.size w W)] : Aside0 (w0.heap.size ≤ g) := ⟨by rw [hg]; exact below_size (HB_up h.out)⟩
theorem ng_ (hg : g = W.heap.size) (h : Aside0 (w.heap[gb]? = some o)) [Nonempty (Below w.heap.size w W)] : Aside0 (g ≠ gb) := ⟨by rw [hg]; exact Nat.ne_of_gt (blk_lt (blk_up h.out))⟩
theorem nl_ (hg : g = W.heap.size) (h : Aside0 (w.heap[gb]? = some o)) [Nonempty (Below w.heap.size w W)] : Aside0 (gb ≠ g) := ⟨by rw [hg]; exact Nat.ne_of_lt (blk_lt (blk_up h.out))⟩
theorem kb_ {W0 : World} (_h0 : Aside0 (KeepBut w W0 g none)) (hb : Below W.heap.size W w1) (h : KeepBut w W g none := by exact hk_) : Aside0 (KeepBut w w1 g none) := ⟨KeepBut.trans h (KeepBut.of_below hb g none) (.inl rfl)⟩
theorem kk_ {W0 : World} (_h0 : Aside0 (KeepBut w W0 g none)) (hk : KeepBut W w1 g none) (h : KeepBut w W g none := by exact hk_) : Aside0 (KeepBut w w1 g none) := ⟨KeepBut.trans h hk (.inl rfl)⟩
theorem kg_ {W' W0 : World} (_h0 : Aside0 (KeepBut w W0 g none)) (hg : W.grownBy w1 v.ownBlock) (ho : Aside0 (d.R e W' w.heap.size ok v xs)) (h : KeepBut w W g none := by exact hk_) : Aside0 (KeepBut w w1 g none) := ⟨KeepBut.trans h (KeepBut.of_grown hg g) (Kd.R_base2 ho.out)⟩
theorem cu_ {A : Option Addr} {n : Nat} (h : Aside0 (d.C w A n xs)) (hb : Aside0 (Below w.heap.size w W)) [Nonempty (Below W.heap.size W w1)] : d.C w1 A n xs := C_up (Kd.C_below h.out hb.out)
theorem rl_ (h : d.R e w1 base ok u xs) (hB : Aside0 (Below w0.heap.size w0 w)) [Nonempty (Below w.heap.size w W)] (hb : base = W.heap.size := by rfl) : Aside0 (d.R e w1 w0.heap.size ok u xs) := ⟨Kd.R_lower h (by rw [hb]; exact below_size (HB_up hB.out))⟩
theorem rs_ (h : d.R e w1 W.heap.size ok u xs) (hk : KeepBut w W g none := by exact hk_) : Aside0 (d.R e w1 w.heap.size ok u xs) := ⟨Kd.R_lower h (keep_size hk)⟩
end
section
variable {P : Program} {Q : Exit → Act → World → Prop} {ops : Array Oper} {md : Region.Mode} {S : World → Prop} {ds : List Nat} {fuel : Nat} {oi : Oper} {v : Value} {l : Array Bool} {a a' : Act} {w : World}
open Go.Proofs.YtehdbobpbcjmeaaW.PrintLast
theorem pq_ (i : Nat) (N : Option Tmp) (h : wpAnyLast P md ops Q S ds fuel (l.setIfInBounds i true) a' w) (hi : ops[i]? = some oi := by rfl) (hN : oi.dst = N := by rfl) (hc : anyB md ops l (l.setIfInBounds i true) i = true := by exact any_of HT_.out (by kernel_rfl))
    (hQ : ∀ c a w, Q (.panic c) (a.put oi.dst v) w → Q (.panic c) a w := by exact fun _ _ _ h => h) (hy : Yields P ops oi v a := by exact Or.inl ⟨by rfl, by intro w'; go_simp; all_goals (first | with_reducible rfl | (simp [Instr.field, go_sem]; rfl))⟩) (ha : a.put N v = a' := by exact sp_) : wpAnyLast P md ops Q S ds (fuel + 1) l a w := pu_ hi hN hc hQ hy ha h
theorem pn_ (i : Nat) (N : Option Tmp) (h : wpAnyLast P md ops Q S ds fuel (l.setIfInBounds i true) a' w) (hi : ops[i]? = some oi := by rfl) (hN : oi.dst = N := by rfl) (hc : anyB md ops l (l.setIfInBounds i true) i = true := by exact any_of HT_.out (by kernel_rfl))
    (hQ : ∀ c a w, Q (.panic c) (a.put oi.dst undef) w → Q (.panic c) a w := by exact fun _ _ _ h => h) (hy : Yields P ops oi undef a := by exact Or.inr ⟨by rfl, rfl⟩) (ha : a.put N undef = a' := by exact sp_) : wpAnyLast P md ops Q S ds (fuel + 1) l a w := pu_ hi hN hc hQ hy ha h
theorem tq_ (i : Nat) (N : Option Tmp) (hS : S w) (h : wpAnyLast P md ops Q S ds fuel (l.setIfInBounds i true) a' w) (hi : ops[i]? = some oi := by rfl) (hN : oi.dst = N := by rfl) (hc : takeB md ops ds l (l.setIfInBounds i true) i = true := by exact take_ofW HT_.out HW_.out (by kernel_rfl))
    (hQ : ∀ c a w, Q (.panic c) (a.put oi.dst v) w → Q (.panic c) a w := by exact fun _ _ _ h => h) (hy : YieldsIf P ops S oi v a := by exact Or.inl ⟨by rfl, by intro w' hs_; (repeat (obtain ⟨_, hs_⟩ := hs_)); go_simp; all_goals (first | with_reducible rfl | (simp [Instr.field, go_sem]; rfl))⟩) (ha : a.put N v = a' := by exact sp_) : wpAnyLast P md ops Q S ds (fuel + 1) l a w := ta_ hi hN hc hQ hy hS ha h
theorem oq_ (i : Nat) (N : Option Tmp)
    (h : ∀ K : Act → World → Prop, Shut (∀ a' w', S w' → (S w' → wpAnyLast P md ops Q S ds fuel (l.setIfInBounds i true) a' w') → K a' w') → if Region.wanted oi (yielded ops a.tmps) = true then Oper.wp P oi a w K Q else K (a.put N undef) w) (hi : ops[i]? = some oi := by rfl) (hN : oi.dst = N := by rfl) (hc : readyB md ops l (l.setIfInBounds i true) i = true := by exact one_of HT_.out (by kernel_rfl)) (hd : i ∉ ds := by decide) : wpAnyLast P md ops Q S ds (fuel + 1) l a w := on_ hi hN hc hd h
theorem nq_ (N : Option Tmp) (h : wpAnyLast P md ops Q S ds fuel l a' w) (ha : a.put N v = a' := by simp only [Act.put, List.setIfInBounds_toArray, List.set_cons_zero, List.set_cons_succ, i64_w, i32_w]; rfl) : wpAnyLast P md ops Q S ds fuel l (a.put N v) w := norm_ ha h
theorem dq_ (h : Q .normal a w) (hr : (Region.ready md ops l == []) = true := by exact done_of HT_.out (by kernel_rfl)) : wpAnyLast P md ops Q S ds fuel l a w := done_ hr h
theorem goesS_ {N : Option Tmp} {K : Act → World → Prop} {f : FuncId} {fn : Func} {as : Array Operand} {ts : Array TypeId} (hf : P.funcs[f]? = some fn) (args : Array Value)
    (h : Calls P f args w fun e w' => ∃ v, e = .returned v ∧ K (a.put N v) w') (hname : (fn.name == "runtime.NumGoroutine") = false := by kernel_rfl) (hb : fn.body.isSome = true := by rfl) (hw : Region.wanted oi (yielded ops a.tmps) = true := by rfl) (hN : oi.dst = N := by rfl) (hop : oi.op = .call { callee := .value (.func f), args := as, argTypes := ts } := by rfl)
    (hargs : as.map a.eval = args := by (try simp only [List.map_toArray, List.map_cons, List.map_nil]); first | done | rfl | (simp only [List.length_drop, List.length_take]; rfl)) : if Region.wanted oi (yielded ops a.tmps) = true then Oper.wp P oi a w K Q else K (a.put N undef) w := goes_ hf hname hb args hw hN hop hargs h
end
theorem np_ {p : Prop} (h : p := by first | (simp only [Go.Proofs.YtehdbobpbcjmeaaW.PrintLast.putAll, Act.put, List.setIfInBounds_toArray, List.set_cons_zero, List.set_cons_succ]; done) | (simp only [Go.Proofs.YtehdbobpbcjmeaaW.PrintLast.putAll, Act.put, List.setIfInBounds_toArray, List.set_cons_zero, List.set_cons_succ]; rfl)) : p := h
theorem ck8_ {w w1 : World} {a0 a1 a2 a3 a4 a5 a6 a7 : Addr} {v0 v1 v2 v3 v4 v5 v6 v7 : Value} (hb : Below w.heap.size w w1) (h0 : w.cell? a0 = some v0) (h1 : w.cell? a1 = some v1) (h2 : w.cell? a2 = some v2) (h3 : w.cell? a3 = some v3) (h4 : w.cell? a4 = some v4) (h5 : w.cell? a5 = some v5) (h6 : w.cell? a6 = some v6) (h7 : w.cell? a7 = some v7) : w1.cell? a0 = some v0 ∧ w1.cell? a1 = some v1 ∧ w1.cell? a2 = some v2 ∧ w1.cell? a3 = some v3 ∧ w1.cell? a4 = some v4 ∧ w1.cell? a5 = some v5 ∧ w1.cell? a6 = some v6 ∧ w1.cell? a7 = some v7 := ⟨ck_ hb h0, ck_ hb h1, ck_ hb h2, ck_ hb h3, ck_ hb h4, ck_ hb h5, ck_ hb h6, ck_ hb h7⟩
def FarX (g : Nat) (W W' : World) : Prop := W.heap.size ≤ W'.heap.size ∧ ∀ k, k ≠ g → k < W.heap.size → W'.heap[k]? = W.heap[k]?
theorem FarX.refl (g : Nat) (W : World) : FarX g W W := ⟨Nat.le_refl _, fun _ _ _ => rfl⟩
theorem FarX.below {g : Nat} {W W' W2 : World} (h : FarX g W W') (hb : Below W'.heap.size W' W2) : FarX g W W2 := ⟨Nat.le_trans h.1 hb.size, fun k hk hl => (hb.block k (Nat.lt_of_lt_of_le hl h.1)).trans (h.2 k hk hl)⟩
theorem FarX.set {g : Nat} {W W' : World} (h : FarX g W W') (i : Nat) (u : Value) : FarX g W (W'.setCell ⟨g, i, none⟩ u) := ⟨by simpa [World.setCell] using h.1, fun k hk hlt => (Below.heap_setCell W' ⟨g, i, none⟩ u k hk).trans (h.2 k hk hlt)⟩
theorem FarX.alloc {g : Nat} {W W' : World} (h : FarX g W W') (o : Obj) : FarX g W (W'.alloc o) := h.below up_
theorem FarX.drew {g : Nat} {W W' : World} (h : FarX g W W') : FarX g W W'.drew := h.below up_
theorem FarX.drewN {g : Nat} {W W' : World} (h : FarX g W W') (n : Nat) : FarX g W (W'.drewN n) := h.below up_
theorem fx_ {p : Prop} (h : p := by repeat (first | with_reducible exact FarX.refl _ _ | with_reducible refine FarX.set ?_ _ _ | with_reducible refine FarX.alloc ?_ _ | with_reducible refine FarX.drewN ?_ _ | with_reducible refine FarX.drew ?_)) : p := h
section
variable {α : Type} {d : Kd α} {e base g : Nat} {W W' : World} {ok : Nat → Prop} {v : Value} {xs : List α} {cs : Array Value} {t : TypeId}
theorem rf_ (ho : Aside0 (d.R e W base ok v xs)) (hb : Aside0 (W.heap[g]? = some (.cells cs t (0, 0)))) (hx : FarX g W W' := by exact fx_) (ht : ∀ q, q ∈ e :: d.E → q ≠ t := by decide) : d.R e W' base ok v xs :=
  Kd.R_mono (Kd.R_step (Kd.R_types ho.out hb.out ht) (fun k hk hlt => hx.2 k hk.2 hlt)) (fun _ h => h.1)
theorem rft_ (ho : Aside0 (d.R e W base ok v xs)) (hb : Aside0 (W.heap[g]? = some (.cells cs t (0, 0)))) (hx : FarX g W W' := by exact fx_) (ht : ∀ q, q ∈ e :: d.E → q ≠ t := by decide) : d.R e W' base (fun _ => True) v xs := Kd.R_mono (rf_ ho hb hx ht) (fun _ _ => trivial)
end
structure ArrSet (l : List Value) (i : Nat) (u : Value) (l' : List Value) : Prop where intro :: (out : l.set i u = l')
theorem blk_puta {w : World} {g : Nat} {t : TypeId} {l l' : List Value} (h : w.heap[g]? = some (.cells l.toArray t (0, 0))) (i : Nat) (u : Value) (e : ArrSet l i u l') : (w.setCell ⟨g, i, none⟩ u).heap[g]? = some (.cells l'.toArray t (0, 0)) := blk_put h i u (by rw [List.setIfInBounds_toArray, e.out])
theorem blk_fara {w : World} {g : Nat} {o : Obj} (h : w.heap[g]? = some o) {p : Addr} (hp : g ≠ p.block) (u : Value) : (w.setCell p u).heap[g]? = some o := (Below.heap_setCell w p u g hp).trans h
theorem bq_ {p : Prop} (h : p := by repeat (first | with_reducible apply blk_puta | with_reducible apply blk_fara | with_reducible apply blk_drewN | with_reducible apply blk_drew | with_reducible apply blk_alloc | with_reducible exact Aside0.out (by assumption) | exact ArrSet.intro rfl)) : p := h
end Go.Proofs.YtehdbobpbcjmeaaW.PrintWords

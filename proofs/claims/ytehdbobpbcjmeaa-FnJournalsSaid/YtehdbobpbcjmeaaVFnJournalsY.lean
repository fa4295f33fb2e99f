/- Words that the law's texts use (taken out of the print's words by a program of this session). No condition of its own. -/
import Derived.Test.YtehdbobpbcjmeaaVFnJournalsWWords
import Derived.Test.YtehdbobpbcjmeaaVFnJournalsWLast
import Derived.Test.YtehdbobpbcjmeaaVFnJournalsWApart
import Derived.Test.YtehdbobpbcjmeaaVFnJournalsWFoot
import Derived.Test.YtehdbobpbcjmeaaVFnJournalsWKept
import Derived.Test.YtehdbobpbcjmeaaVFnJournalsWShare
import Derived.Test.YtehdbobpbcjmeaaVFnJournalsWN
import Derived.Test.YtehdbobpbcjmeaaVFnJournalsWRepsOne
import Derived.Test.YtehdbobpbcjmeaaVFnJournalsWNEv
import Derived.Test.YtehdbobpbcjmeaaVFnJournalsWMore
import Derived.Test.YtehdbobpbcjmeaaVFnJournalsX
import Derived.Lib.ConvBytes
import Derived.ArgAppend
import Derived.Lib.SlBytesConst
namespace Go.Proofs.YtehdbobpbcjmeaaW.PrintWords
open Go.RowKit
theorem blk_cells8 {w : World} {g : Nat} {T : TypeId} {v0 v1 v2 v3 v4 v5 v6 v7 : Value} (h : w.heap[g]? = some (.cells #[v0, v1, v2, v3, v4, v5, v6, v7] T (0, 0))) :
    w.cell? ⟨g, 0, none⟩ = some v0 ∧ w.cell? ⟨g, 1, none⟩ = some v1 ∧ w.cell? ⟨g, 2, none⟩ = some v2 ∧ w.cell? ⟨g, 3, none⟩ = some v3 ∧ w.cell? ⟨g, 4, none⟩ = some v4 ∧ w.cell? ⟨g, 5, none⟩ = some v5 ∧ w.cell? ⟨g, 6, none⟩ = some v6 ∧ w.cell? ⟨g, 7, none⟩ = some v7 := ⟨(blk_cell h 0).trans rfl, (blk_cell h 1).trans rfl, (blk_cell h 2).trans rfl, (blk_cell h 3).trans rfl, (blk_cell h 4).trans rfl, (blk_cell h 5).trans rfl, (blk_cell h 6).trans rfl, (blk_cell h 7).trans rfl⟩
theorem blk_frozen8 {w : World} {g : Nat} {T : TypeId} {cs : Array Value} (h : w.heap[g]? = some (.cells cs T (0, 0))) :
    w.frozen? ⟨g, 0, none⟩ = false ∧ w.frozen? ⟨g, 1, none⟩ = false ∧ w.frozen? ⟨g, 2, none⟩ = false ∧ w.frozen? ⟨g, 3, none⟩ = false ∧ w.frozen? ⟨g, 4, none⟩ = false ∧ w.frozen? ⟨g, 5, none⟩ = false ∧ w.frozen? ⟨g, 6, none⟩ = false ∧ w.frozen? ⟨g, 7, none⟩ = false := ⟨blk_frozen h 0, blk_frozen h 1, blk_frozen h 2, blk_frozen h 3, blk_frozen h 4, blk_frozen h 5, blk_frozen h 6, blk_frozen h 7⟩
theorem ck_ {w w1 : World} {a : Addr} {v : Value} (hb : Below w.heap.size w w1) (h : w.cell? a = some v) : w1.cell? a = some v := (hb.cell (World.block_lt_of_cell? w _ h)).trans h
theorem Kd.C_string_n {P : Program} {src dst e : TypeId} {W : World} {A : Option Addr} {xs : List Int} {c : Nat} (hs : P.underlying src = some (.slice e)) (he : P.underlying e = some (.int .u8)) (hd : P.underlying dst = some .string) (h : (Kd.int .u8).C W A xs.length xs) (n : Nat) (hn : xs.length = n) : (convert src dst (.slice A n c)).run P W = .ok (.string (strOfNums xs)) W := by
  subst hn
  exact Kd.C_string hs he hd h
instance up_refl (w : World) : Nonempty (Below w.heap.size w w) := ⟨Below.refl _ _⟩
instance up_alloc (w w1 : World) (o : Obj) [h : Nonempty (Below w.heap.size w w1)] : Nonempty (Below w.heap.size w (w1.alloc o)) := h.elim fun h => ⟨below_alloc h o⟩
instance up_drew (w w1 : World) [h : Nonempty (Below w.heap.size w w1)] : Nonempty (Below w.heap.size w w1.drew) := h.elim fun h => ⟨below_drew h⟩
instance up_drewN (w w1 : World) (n : Nat) [h : Nonempty (Below w.heap.size w w1)] : Nonempty (Below w.heap.size w (w1.drewN n)) := h.elim fun h => ⟨pw_below_drewN h n⟩
theorem up_ {w w1 : World} [h : Nonempty (Below w.heap.size w w1)] : Below w.heap.size w w1 := h.elim id
theorem HB_up {w0 w w1 : World} (h : Below w0.heap.size w0 w) [Nonempty (Below w.heap.size w w1)] : Below w0.heap.size w0 w1 := below_step h up_
theorem blk_up {w w1 : World} {g : Nat} {o : Obj} (h : w.heap[g]? = some o) [Nonempty (Below w.heap.size w w1)] : w1.heap[g]? = some o := blk_below h up_
section
variable {α : Type} {d : Kd α} {w w1 : World} {A : Option Addr} {n : Nat} {xs : List α} {e base : Nat} {ok : Nat → Prop} {v : Value} [Nonempty (Below w.heap.size w w1)]
theorem C_up (h : d.C w A n xs) : d.C w1 A n xs := Kd.C_below h up_
theorem R_up (h : d.R e w base ok v xs) : d.R e w1 base ok v xs := Kd.R_below h up_
theorem S_up (h : d.S e w base ok v xs) : d.S e w1 base ok v xs := Kd.S_below h up_
theorem V_up (h : d.V e w base ok v xs) : d.V e w1 base ok v xs := Kd.V_below h up_
theorem N_up (h : d.N e w base ok v xs) : d.N e w1 base ok v xs := Kd.N_below h up_
end
theorem bytesWorld_below {w0 W : World} {base e : Nat} (s : ByteArray) (HB : Below base w0 W) (hbase : base ≤ W.heap.size) : Below base w0 (Lib.bytesWorld W e s) :=
  HB.trans ⟨rfl, rfl, rfl, by rw [Lib.bytesWorld_size]; omega, fun k hk => Lib.bytesWorld_at_old W e s k (by omega)⟩
theorem bytesWorld_grown {W : World} {e : Nat} (s : ByteArray) : W.grownBy (Lib.bytesWorld W e s) none :=
  ⟨rfl, rfl, rfl, by rw [Lib.bytesWorld_size]; omega, fun k hk _ => Lib.bytesWorld_at_old W e s k hk⟩
namespace Kd
theorem V_bytes (W : World) (e base : Nat) (s : ByteArray) (hm : s.size ≤ 9223372036854775807) :
    V (int .u8) e (Lib.bytesWorld W e s) base (fun k => W.heap.size ≤ k) (.slice (some ⟨W.heap.size, 0, none⟩) s.size (grownCap W s.size 0 e)) (bytesOf s) := by
  have hl : (bytesOf s).length = s.size := bytesOf_length s
  refine ⟨some ⟨W.heap.size, 0, none⟩, grownCap W s.size 0 e, by rw [hl], by rw [hl]; exact grownCap_ge W s.size 0 e, fun W' hW => ?_⟩
  have hn := hW W.heap.size (Nat.le_refl _) (by rw [Lib.bytesWorld_size]; omega)
  refine C_of_reads (d := (0 : Int)) ⟨rfl, by rw [hl]; exact hm, fun _ => ⟨_, rfl, fun j hj => ?_⟩⟩
  rw [show (⟨W.heap.size, 0, none⟩ : Addr).add j = ⟨W.heap.size, j, none⟩ by unfold Addr.add; split <;> simp_all]
  rw [World.cell?_of_block (w := Lib.bytesWorld W e s) hn, Lib.bytesWorld_cell W e s j (by omega)]
  congr 2
  rw [hl] at hj
  have h1 : j < s.data.toList.length := by simpa using hj
  simp only [bytesOf, List.getD, List.getElem?_map, List.getElem?_eq_getElem h1, Option.map_some, Option.getD_some]
section
variable {P : Program} {ops : Array Oper} {rest : List Oper} {o : Oper} {a : Act} {Q : Exit → Act → World → Prop} {Kc : Act → World → Prop}
theorem conv_run {W : World} {src dst e : Nat} {x : Operand} (ho : o.op = .convert src dst x) (hs : P.underlying src = some .string) (hd : P.underlying dst = some (.slice e)) (he : P.underlying e = some (.int .u8)) (s : ByteArray) (hx : a.eval x = .string s) :
    (execOp a.eval o).run P W = .ok (.value (.slice (some ⟨W.heap.size, 0, none⟩) s.size (grownCap W s.size 0 e))) (Lib.bytesWorld W e s) := by
  have hr := Lib.run_convert_string_bytes (P := P) W src dst e s hs hd he
  unfold execOp
  simp only [ho, hx, Sem.run_bind, hr, Result.andThen_ok, Sem.run_pure]
theorem V_conv {w0 W : World} (base e : Nat) (hgd : o.guard = none) {N' : Tmp} (_hd : o.dst = some N') (src dst : TypeId) (x : Operand) (ho : o.op = .convert src dst x) (hs : P.underlying src = some .string) (hd : P.underlying dst = some (.slice e)) (he : P.underlying e = some (.int .u8)) (s : ByteArray) (hx : a.eval x = .string s) (hm : s.size ≤ 9223372036854775807)
    (HB : Below base w0 W) (hbase : base ≤ W.heap.size)
    (h : ∀ v1 w1, V (int .u8) e w1 base (fun k => W.heap.size ≤ k) v1 (bytesOf s) → Below base w0 w1 → W.grownBy w1 none → (∃ b, v1.ownBlock = some b ∧ W.heap.size ≤ b) → wpList P ops Q rest (a.put o.dst v1) w1) : wpList P ops Q (o :: rest) a W :=
  event_run hgd (conv_run ho hs hd he s hx) (h _ _ (V_bytes W e base s hm) (bytesWorld_below s HB hbase) (bytesWorld_grown s) ⟨W.heap.size, by simp [Value.ownBlock], Nat.le_refl _⟩)
theorem V_conv_step {w0 W : World} (base e : Nat) (hw : Region.wanted o (yielded ops a.tmps) = true) {N' : Tmp} (_hd : o.dst = some N') (src dst : TypeId) (x : Operand) (ho : o.op = .convert src dst x) (hs : P.underlying src = some .string) (hd : P.underlying dst = some (.slice e)) (he : P.underlying e = some (.int .u8)) (s : ByteArray) (hx : a.eval x = .string s) (hm : s.size ≤ 9223372036854775807)
    (HB : Below base w0 W) (hbase : base ≤ W.heap.size)
    (h : ∀ v1 w1, V (int .u8) e w1 base (fun k => W.heap.size ≤ k) v1 (bytesOf s) → Below base w0 w1 → W.grownBy w1 none → (∃ b, v1.ownBlock = some b ∧ W.heap.size ≤ b) → Kc (a.put o.dst v1) w1) : if Region.wanted o (yielded ops a.tmps) = true then Oper.wp P o a W Kc Q else Kc (a.put o.dst undef) W :=
  event_step hw (conv_run ho hs hd he s hx) (h _ _ (V_bytes W e base s hm) (bytesWorld_below s HB hbase) (bytesWorld_grown s) ⟨W.heap.size, by simp [Value.ownBlock], Nat.le_refl _⟩)
end
end Kd
section
variable {P : Program} {ops : Array Oper} {o : Oper} {a : Act} {Q : Exit → Act → World → Prop} {Kc : Act → World → Prop}
theorem print_append_str_step {w0 W : World} (base : Nat) (hw : Region.wanted o (yielded ops a.tmps) = true) (s x : Operand) (t u e : TypeId)
    (ho : o.op = .call { callee := .builtin .append, args := #[s, x], argTypes := #[t, u] })
    (ht : P.underlying t = some (.slice e)) (hu : P.underlying u = some .string) (hinfo : (P.info? e).map (fun i => (i.zero, i.size, i.bytes)) = some (some (.int .u8 0), 1, 1))
    (v : Value) (xs : List Int) (y : ByteArray) (hs : a.eval s = v) (hx : a.eval x = .string y)
    (HO : W.ownsRow base e 1 v xs.length (nums .u8 xs)) (HB : Below base w0 W) (hbase : base ≤ W.heap.size) (hl : xs.length + y.size ≤ 140737488355328)
    (h : ∀ v1 w1, w1.ownsRow base e 1 v1 (xs ++ bytesOf y).length (nums .u8 (xs ++ bytesOf y)) → Below base w0 w1 → W.grownBy w1 v.ownBlock → Kc (a.put o.dst v1) w1) :
    if Region.wanted o (yielded ops a.tmps) = true then Oper.wp P o a W Kc Q else Kc (a.put o.dst undef) W := by
  obtain ⟨i0, hi, hzz⟩ := Option.map_eq_some_iff.1 hinfo
  simp only [Prod.mk.injEq] at hzz
  obtain ⟨hz0, hz1, hz2⟩ := hzz
  rw [if_pos hw]
  obtain ⟨v1, w1, hr, hown, hg, _⟩ := Lib.run_append_own_string (P := P) W base t u o.type e i0 ht hu hi hz0 hz1 hz2 v xs.length (nums .u8 xs) HO y (by simp only [maxLen]; omega) hl hbase
  unfold Oper.wp execOp
  simp only [ho, resolve, invoke, builtin, Sem.run_bind, Sem.run_pure, Result.andThen_ok, List.map_toArray, List.map_cons, List.map_nil, hs, hx, hr]
  have hl2 : (xs ++ bytesOf y).length = xs.length + y.size := by rw [List.length_append, bytesOf_length]
  have hc : nums .u8 (xs ++ bytesOf y) = nums .u8 xs ++ Lib.strCells y := by
    rw [nums_append]
    congr 1
    simp [nums, bytesOf, Lib.strCells]
  exact h v1 w1 (by rw [hl2, hc]; exact hown) (HB.grown hg hbase (own_base HO)) hg
end
def cpy (xs ys : List Int) : List Int := ys.take xs.length ++ xs.drop ys.length
theorem cpy_length (xs ys : List Int) : (cpy xs ys).length = xs.length := by
  simp only [cpy, List.length_append, List.length_take, List.length_drop]
  omega
section
variable {P : Program} {ops : Array Oper} {rest : List Oper} {o : Oper} {a : Act} {Q : Exit → Act → World → Prop}
theorem run_copy_nums {W : World} (base : Nat) (t ty e : TypeId) (hu : P.underlying t = some (.slice e)) (hsz : (P.info? e).map (·.size) = some 1) (v : Value) (xs ys : List Int) (A : Option Addr) (n c : Nat)
    (HO : W.ownsRow base e 1 v xs.length (nums .u8 xs)) (HR : (Kd.int .u8).C W A n ys) :
    ∃ w1 k, (Builtin.copy_ #[t, t] ty #[v, .slice A n c]).run P W = .ok (goInt k) w1 ∧ w1.ownsRow base e 1 v (cpy xs ys).length (nums .u8 (cpy xs ys)) ∧ W.grownBy w1 v.ownBlock := by
  have hR := Kd.reads_of_C (d := (0 : Int)) HR
  obtain ⟨hn, _, hcell⟩ := hR
  by_cases h0 : Nat.min n xs.length = 0
  · refine ⟨W, 0, ?_, ?_, ⟨rfl, rfl, rfl, Nat.le_refl _, fun _ _ _ => rfl⟩⟩
    · rcases HO.2 with ⟨rfl, hx⟩ | ⟨g, cap, cur, rfl, _⟩
      · have hx0 : xs.length = 0 := hx
        exact run_copy_none (P := P) W t t ty e none A 0 0 n c hu hsz (Nat.min_eq_right (Nat.zero_le _))
      · exact run_copy_none (P := P) W t t ty e _ A xs.length cap n c hu hsz h0
    · have hc : cpy xs ys = xs := by
        rcases Nat.eq_zero_or_pos n with h | h
        · have : ys = [] := List.eq_nil_of_length_eq_zero (by omega)
          subst this
          simp [cpy]
        · have hx0 : xs.length = 0 := by have h1 := (show Nat.min n xs.length = min n xs.length from rfl); omega
          have : xs = [] := List.eq_nil_of_length_eq_zero hx0
          subst this
          simp [cpy]
      rw [hc]
      exact HO
  · have hmin : 0 < n ∧ 0 < xs.length := by have h1 := (show Nat.min n xs.length = min n xs.length from rfl); omega
    rcases HO with ⟨hl, ⟨rfl, hx⟩ | ⟨g, cap, cur, rfl, hbg, hg, hnc, hcm, hcs, htake⟩⟩
    · have hx0 : xs.length = 0 := hx
      omega
    · obtain ⟨ad, rfl, hcell2⟩ := hcell hmin.1
      have hcl : (nums .u8 (ys.take xs.length)).length = Nat.min n xs.length := by
        have h1 := (show Nat.min n xs.length = min n xs.length from rfl)
        simp only [nums, List.length_map, List.length_take, hn]
        omega
      have hcs' : cur.size = cap := by simpa using hcs
      have hle : Nat.min n xs.length ≤ xs.length := Nat.min_le_right _ _
      have hle2 : Nat.min n xs.length ≤ n := Nat.min_le_left _ _
      have hr := run_copy_row (P := P) W t t ty e g 0 xs.length cap ad n c cur e (nums .u8 (ys.take xs.length)) hu hsz hg hcl (fun j u hj => ?_) (by omega) (fun u hu => ?_)
      · refine ⟨_, _, hr, ⟨by simp [nums], .inr ⟨g, cap, _, by rw [cpy_length], hbg, setRow_heap W g cur _ e _ hg, by rw [cpy_length]; exact hnc, hcm, ?_, ?_⟩⟩, ⟨rfl, rfl, rfl, by simp [World.setRow], fun k _ hk => setRow_other W g k _ (fun e => hk (by simp [Value.ownBlock, e]))⟩⟩
        · simp only [List.take_zero, List.nil_append, List.size_toArray, List.length_append, List.length_drop, Array.length_toList, Nat.zero_add]
          omega
        · have ht : cur.toList.take xs.length = nums .u8 xs := by simpa using htake
          simp only [List.take_zero, List.nil_append, Nat.zero_add, Nat.mul_one, cpy_length]
          have hk : (nums .u8 (ys.take xs.length)).length ≤ xs.length := by omega
          have hd : (cur.toList.drop (nums .u8 (ys.take xs.length)).length).take (xs.length - (nums .u8 (ys.take xs.length)).length) = (nums .u8 xs).drop (nums .u8 (ys.take xs.length)).length := by
            rw [← ht, List.drop_take]
          rw [List.take_append, List.take_of_length_le hk, hd]
          simp only [nums, cpy, List.map_append, List.map_drop, List.map_take, List.length_take, List.length_map]
          congr 1
          rcases Nat.le_total ys.length xs.length with h | h
          · rw [Nat.min_eq_right h]
          · rw [Nat.min_eq_left h, List.drop_eq_nil_of_le (by simp), List.drop_eq_nil_of_le (by simpa using h)]
      · obtain ⟨hjl, hje⟩ := List.getElem?_eq_some_iff.1 hj
        simp only [nums, List.length_map, List.length_take] at hjl
        rw [hcell2 j (by omega), ← hje]
        have hj2 : j < ys.length := by omega
        simp [nums, List.getD, hj2]
      · simp only [nums, List.mem_map] at hu
        obtain ⟨z, _, rfl⟩ := hu
        rfl
theorem Kd.R_copyv {w0 W : World} (base : Nat) (hgd : o.guard = none) (s x : Operand) (t e : TypeId)
    (ho : o.op = .call { callee := .builtin .copy, args := #[s, x], argTypes := #[t, t] })
    (ht : P.underlying t = some (.slice e)) (hinfo : (P.info? e).map (fun i => (i.zero, i.size, i.bytes)) = some (some (.int .u8 0), 1, 1))
    (v : Value) (xs ys : List Int) (A : Option Addr) (n c : Nat) (ok : Nat → Prop) (hs : a.eval s = v) (hx : a.eval x = .slice A n c) (HO : (Kd.int .u8).R e W base ok v xs) (HR : (Kd.int .u8).C W A n ys)
    (HB : Below base w0 W) (hbase : base ≤ W.heap.size)
    (h : ∀ v1 w1, v1 = v → (Kd.int .u8).R e w1 base ok v1 (cpy xs ys) → Below base w0 w1 → W.grownBy w1 v.ownBlock → (v1.ownBlock = v.ownBlock ∨ ∃ b, v1.ownBlock = some b ∧ W.heap.size ≤ b) → ∀ k, wpList P ops Q rest (a.put o.dst (goInt k)) w1) :
    wpList P ops Q (o :: rest) a W := by
  obtain ⟨i0, hi, hzz⟩ := Option.map_eq_some_iff.1 hinfo
  simp only [Prod.mk.injEq] at hzz
  have hsz : (P.info? e).map (·.size) = some 1 := by rw [hi]; simp [hzz.2.1]
  have hown : W.ownsRow base e 1 v xs.length (nums .u8 xs) := Kd.own_of_R HO
  obtain ⟨w1, k, hr, hown1, hg⟩ := run_copy_nums (P := P) base t o.type e ht hsz v xs ys A n c hown HR
  refine wpList_plain hgd fun K hK => ?_
  unfold Oper.wp execOp
  simp only [ho, resolve, invoke, builtin, Sem.run_bind, Sem.run_pure, Result.andThen_ok, List.map_toArray, List.map_cons, List.map_nil, hs, hx, hr]
  exact hK _ _ (h v w1 rfl (Kd.R_of_own hown1 HO.1) (HB.grown hg hbase (own_base hown)) hg (.inl rfl) k)
end
theorem od_ {p : Prop} [Decidable p] (h : decide p = true := by first | (with_reducible assumption) | assumption) : p := of_decide_eq_true h
theorem hk_ {p : Prop} (h : p := by repeat (first | (with_reducible first | exact HK.out | apply KeepBut.set_ | apply keep_drewN | apply keep_drew | apply keep_alloc | refine keep_far ?_ (Aside0.out (by assumption)) _) | exact HK.out)) : p := h
theorem blf_ {p : Prop} (h : p := by repeat (first | (with_reducible first | exact Aside0.out (by assumption) | refine blk_drewN ?_ _ | refine blk_drew ?_ | refine blk_alloc ?_ _ | refine blk_far ?_ (Aside0.out (by assumption)) _) | exact Aside0.out (by assumption))) : p := h
theorem sp_ {p : Prop} (h : p := by simp only [Act.put, List.setIfInBounds_toArray, List.set_cons_zero, List.set_cons_succ, i64_w, i32_w]; rfl) : p := h
theorem reps_ints (k : IntKind) (w : World) (base : Nat) (ok : Nat → Prop) : ∀ xs : List Int, Reps ((Kd.int k).M w base ok) 1 xs (xs.map (Value.int k))
  | [] => Reps.none _ _
  | _ :: xs => Reps.one rfl (reps_ints k w base ok xs)
theorem vl_ {p : Prop} (h : p := by first | rfl | (simp; done) | (simp [*]; done) | (simp; generalize ByteArray.toList _ = zq_; cases zq_ <;> rfl)) : p := h
theorem dr_ {p : Prop} (h : p := by repeat (first | exact Drawn0.refl _ | apply Drawn0.step)) : p := h
theorem le_ {p : Prop} (h : p := by first | omega | exact Nat.le_refl _) : p := h
theorem ve_ {p : Prop} (h : p := by first | rfl | (simp [errW_none, errW_some] <;> rfl) | (simp [*, errW_none, errW_some] <;> rfl)) : p := h
theorem hb_ {p : Prop} (h : p := by repeat (first | (with_reducible first | exact HB.out | apply below_alloc | apply pw_below_drewN | apply below_drew1) | exact HB.out)) : p := h
theorem hs_ {p : Prop} (h : p := by repeat (first | (with_reducible first | exact HB.out | apply below_alloc | apply pw_below_drewN | apply below_drew1 | refine below_set ?_ (Aside0.out (by assumption))) | exact HB.out)) : p := h
open Go.Proofs.YtehdbobpbcjmeaaW.PrintLast in
theorem goesY_ {P : Program} {ops : Array Oper} {Q : Exit → Act → World → Prop} {rest : List Oper} {oi : Oper} {a : Act} {w : World} (N : Option Tmp) {f : FuncId} {fn : Func} {as : Array Operand} {ts : Array TypeId} (hf : P.funcs[f]? = some fn) (args : Array Value)
    (hop : oi.op = .call { callee := .value (.func f), args := as, argTypes := ts })
    (h : Calls P f args w fun e w' => ∃ v, e = .returned v ∧ wpList P ops Q rest (a.put N v) w') (hd : oi.dst = N := by rfl) (hg : oi.guard = none := by rfl) (hname : (fn.name == "runtime.NumGoroutine") = false := by kernel_rfl) (hb : fn.body.isSome = true := by rfl)
    (hargs : as.map a.eval = args := by (try simp only [List.map_toArray, List.map_cons, List.map_nil]); first | done | rfl | (simp only [List.length_drop, List.length_take]; rfl)) : wpList P ops Q (oi :: rest) a w := goesL_ N hd hg hf hname hb args hop hargs h
namespace Kd
theorem setCells_at (g : Nat) : ∀ (news : List Value) (o : Nat) (W : World) (cs : Array Value) (e : Nat) (fr : Nat × Nat), W.heap[g]? = some (.cells cs e fr) → o + news.length ≤ cs.size → ∃ cs', (W.setCells g o news).heap[g]? = some (.cells cs' e fr) ∧ cs'.size = cs.size ∧ cs'.toList.take (o + news.length) = cs.toList.take o ++ news
  | [], o, W, cs, e, fr, h, _ => ⟨cs, h, rfl, by simp⟩
  | v :: r, o, W, cs, e, fr, h, hl => by
    have h2 : (W.setCell ⟨g, o, none⟩ v).heap[g]? = some (.cells (cs.setIfInBounds o v) e fr) := by simp [World.setCell, Array.getElem?_modify, h]
    simp only [List.length_cons] at hl ⊢
    obtain ⟨cs', a, b, c⟩ := setCells_at g r (o + 1) _ _ e fr h2 (by simp; omega)
    refine ⟨cs', a, by rw [b]; simp, ?_⟩
    rw [show o + (r.length + 1) = o + 1 + r.length by omega, c, Array.toList_setIfInBounds, List.take_set]
    have hlt : o < cs.toList.length := by simp; omega
    rw [List.take_succ_eq_append_getElem hlt, List.set_append_right _ _ (by rw [List.length_take]; exact Nat.min_le_left _ _), List.length_take, Nat.min_eq_left (by omega), Nat.sub_self]
    simp
theorem setCells_grown (g : Nat) : ∀ (news : List Value) (o : Nat) (W : World), W.grownBy (W.setCells g o news) (some g)
  | [], _, W => World.grownBy.refl W _
  | v :: r, o, W => by
    rw [World.setCells]
    refine World.grownBy.trans (b := W.setCell ⟨g, o, none⟩ v) ⟨rfl, rfl, rfl, by simp [World.setCell], fun k hk hne => ?_⟩ (setCells_grown g r (o + 1) _)
    simp only [World.setCell, Array.getElem?_modify]
    rw [if_neg (fun h => hne (by rw [h]))]
theorem V_of_block {W : World} {g N e base c : Nat} {cs : Array Value} {t : Nat} {fr : Nat × Nat} {xs : List Int} (hb : W.heap[g]? = some (.cells cs t fr)) (ht : cs.toList.take xs.length = nums .u8 xs) (hc : xs.length ≤ c) (hm : xs.length ≤ 9223372036854775807) (hN : N ≤ g) :
    V (int .u8) e W base (fun k => N ≤ k) (.slice (some ⟨g, 0, none⟩) xs.length c) xs := by
  refine ⟨some ⟨g, 0, none⟩, c, rfl, hc, fun W' hW => ?_⟩
  have hn := hW g hN (Array.getElem?_eq_some_iff.1 hb).1
  refine C_of_reads (d := (0 : Int)) ⟨rfl, hm, fun _ => ⟨_, rfl, fun j hj => ?_⟩⟩
  rw [show (⟨g, 0, none⟩ : Addr).add j = ⟨g, j, none⟩ by unfold Addr.add; split <;> simp_all]
  have h1 : cs.toList[j]? = some (.int .u8 (xs.getD j 0)) := by
    have h2 : (cs.toList.take xs.length)[j]? = some (.int .u8 (xs.getD j 0)) := by
      rw [ht]; simp only [nums, List.getElem?_map, List.getD, List.getElem?_eq_getElem hj, Option.map_some, Option.getD_some]
    rwa [List.getElem?_take_of_lt hj] at h2
  rw [World.cell?_of_block (w := W) hn]
  simp only [World.cell?, hb, Option.isSome_none, Bool.false_eq_true, if_false]
  rwa [Array.getElem?_toList] at h1
section
variable {P : Program} {ops : Array Oper} {rest : List Oper} {o : Oper} {a : Act} {Q : Exit → Act → World → Prop} {Kc : Act → World → Prop}
theorem conv_go {W : World} (e : Nat) (hgd : o.guard = none) (src dst : TypeId) (x : Operand) (ho : o.op = .convert src dst x) (hs : P.underlying src = some .string) (hd : P.underlying dst = some (.slice e)) (he : P.underlying e = some (.int .u8)) (s : ByteArray) (hx : a.eval x = .string s)
    (h : wpList P ops Q rest (a.put o.dst (.slice (some ⟨W.heap.size, 0, none⟩) s.size (grownCap W s.size 0 e))) (Lib.bytesWorld W e s)) : wpList P ops Q (o :: rest) a W :=
  event_run hgd (conv_run ho hs hd he s hx) h
theorem run_convapp {W : World} (base : Nat) (t ty e : TypeId) (ht : P.underlying t = some (.slice e)) (hinfo : (P.info? e).map (fun i => (i.zero, i.size, i.bytes)) = some (some (.int .u8 0), 1, 1)) (S : ByteArray)
    (A : Option Addr) (m c : Nat) (ys : List Int) (hC : (int .u8).C W A m ys) (hl : S.size + ys.length < 140737488355328) :
    ∃ v1 w1, (Builtin.append_ #[t, t] ty #[.slice (some ⟨W.heap.size, 0, none⟩) S.size (grownCap W S.size 0 e), .slice A m c]).run P (Lib.bytesWorld W e S) = .ok v1 w1 ∧ V (int .u8) e w1 base (fun k => W.heap.size ≤ k) v1 (bytesOf S ++ ys) ∧ W.grownBy w1 none ∧ (∃ b, v1.ownBlock = some b ∧ W.heap.size ≤ b) := by
  obtain ⟨i0, hi, hzz⟩ := Option.map_eq_some_iff.1 hinfo
  simp only [Prod.mk.injEq] at hzz
  obtain ⟨hz0, hz1, hz2⟩ := hzz
  have hr0 := reads_of_C (d := (0 : Int)) hC
  have hm : ys.length = m := hr0.1
  subst hm
  have hbl : (bytesOf S).length = S.size := bytesOf_length S
  have hg1 := bytesWorld_grown (W := W) (e := e) S
  have hge := grownCap_ge W S.size 0 e
  have hz : (Lib.bytesCells W e S).size = grownCap W S.size 0 e := by simp [Lib.bytesCells]; have : S.data.size = S.size := rfl; omega
  have hnew := Lib.bytesWorld_at_new W e S
  have htk : (Lib.bytesCells W e S).toList.take S.size = nums .u8 (bytesOf S) := by
    simp only [Lib.bytesCells, Array.toList_append, Array.toList_map]
    rw [List.take_append_of_le_length (by simp), List.take_of_length_le (by simp)]
    simp [nums, bytesOf]
  have hlen : (bytesOf S ++ ys).length = S.size + ys.length := by rw [List.length_append, hbl]
  rcases A with _ | ad
  · have h0 : ys.length = 0 := by
      rcases Nat.eq_zero_or_pos ys.length with h0 | h0
      · exact h0
      · obtain ⟨ad, h, _⟩ := hr0.2.2 h0
        cases h
    obtain rfl : ys = [] := List.eq_nil_of_length_eq_zero h0
    refine ⟨.slice (some ⟨W.heap.size, 0, none⟩) S.size (grownCap W S.size 0 e), Lib.bytesWorld W e S, ?_, ?_, hg1, ⟨W.heap.size, by simp [Value.ownBlock], Nat.le_refl _⟩⟩
    · simp [Builtin.append_, run_underlying ht, sizeOf, typeInfo, hi, Builtin.lenOf, Builtin.firstCells, hge, storeCells]
    · rw [List.append_nil]; exact V_bytes W e base S (by omega)
  · have hcells : ∀ j u, (nums .u8 ys)[j]? = some u → (Lib.bytesWorld W e S).cell? (ad.add j) = some u := by
      intro j u hu
      have hj : j < ys.length := by
        have := (List.getElem?_eq_some_iff.1 hu).1
        simpa [nums] using this
      obtain ⟨ad', h1, h2⟩ := (reads_of_C (d := (0 : Int)) (C_below hC (bytesWorld_below S (Below.refl _ _) (Nat.le_refl _)))).2.2 (by omega)
      cases h1
      rw [h2 j hj]
      simp only [nums, List.getElem?_map, List.getElem?_eq_getElem hj, Option.map_some, Option.some.injEq] at hu
      rw [← hu]
      simp only [List.getD, List.getElem?_eq_getElem hj, Option.getD_some]
    have hnl : (nums .u8 ys).length = ys.length := by simp [nums]
    by_cases hr : S.size + ys.length ≤ grownCap W S.size 0 e
    · have hrun := run_append_room_cells (P := P) (Lib.bytesWorld W e S) t ty e i0 ht hi W.heap.size 0 S.size (grownCap W S.size 0 e) ad ys.length c (nums .u8 ys) (by rw [hz1, hnl, Nat.mul_one]) hcells (by intro u hu; simp only [nums, List.mem_map] at hu; obtain ⟨q, _, rfl⟩ := hu; rfl) hr
        (fun j hj => by
          rw [hz1]; simp only [World.cell?, hnew, Option.isSome_none, Bool.false_eq_true, if_false]
          rw [Array.getElem?_eq_getElem (by rw [hz]; omega)]; rfl)
        (fun j hj => by
          rw [hz1]; simp only [World.frozen?, hnew, Bool.and_eq_false_imp, decide_eq_true_eq, decide_eq_false_iff_not]
          intro hle; rw [hz] at hle; omega)
      obtain ⟨cs', b1, b2, b3⟩ := setCells_at W.heap.size (nums .u8 ys) (0 + S.size * i0.size) (Lib.bytesWorld W e S) _ e _ hnew (by rw [hz, hz1, hnl]; omega)
      refine ⟨_, _, hrun, ?_, ?_, ⟨W.heap.size, by simp [Value.ownBlock], Nat.le_refl _⟩⟩
      · rw [← hlen]
        refine V_of_block b1 ?_ (by rw [hlen]; exact hr) (by omega) (Nat.le_refl _)
        rw [hz1, Nat.mul_one, Nat.zero_add, hnl, htk] at b3
        rw [hlen, b3, nums_append]
      · have h2 := setCells_grown W.heap.size (nums .u8 ys) (0 + S.size * i0.size) (Lib.bytesWorld W e S)
        exact ⟨h2.os.trans hg1.os, h2.tape.trans hg1.tape, h2.output.trans hg1.output, Nat.le_trans hg1.size h2.size, fun k hk hne => (h2.block k (Nat.lt_of_lt_of_le hk hg1.size) (by simp; omega)).trans (hg1.block k hk hne)⟩
    · obtain ⟨v', w', hrun, ho, hg⟩ := run_append_arg_grows (P := P) (Lib.bytesWorld W e S) t ty e i0 (.int .u8 0) 1 1 ht hi hz0 hz1 hz2 rfl (by decide) ⟨W.heap.size, 0, none⟩ S.size (grownCap W S.size 0 e) (nums .u8 (bytesOf S)) (by simp [nums, hbl]) (fun j u hu => by
          have hj : j < S.size := by have := (List.getElem?_eq_some_iff.1 hu).1; simpa [nums, hbl] using this
          rw [show (⟨W.heap.size, 0, none⟩ : Addr).add j = ⟨W.heap.size, j, none⟩ by unfold Addr.add; split <;> simp_all]
          simp only [World.cell?, hnew, Option.isSome_none, Bool.false_eq_true, if_false]
          rw [← htk, List.getElem?_take_of_lt hj, Array.getElem?_toList] at hu
          exact hu) ad ys.length c (nums .u8 ys) (by rw [hnl, Nat.mul_one]) hcells (by omega) (by simp only [maxLen]; omega) (by omega)
      refine ⟨v', w', hrun, ?_, ⟨hg.os.trans hg1.os, hg.tape.trans hg1.tape, hg.output.trans hg1.output, Nat.le_trans hg1.size hg.size, fun k hk hne => (hg.block k (Nat.lt_of_lt_of_le hk hg1.size) (by simp)).trans (hg1.block k hk hne)⟩, ?_⟩
      · rcases ho.2 with ⟨rfl, hn⟩ | ⟨g, cap, cur, rfl, hgg, hh, hnc, hcm, hsz, htt⟩
        · have : ys.length = 0 ∧ S.size = 0 := by omega
          omega
        · rw [← hlen]
          refine V_of_block hh ?_ (by rw [hlen]; exact hnc) (by omega) (Nat.le_trans hg1.size hgg)
          rw [nums_append, ← htt, hlen]
          simp
      · rcases ho.2 with ⟨rfl, hn⟩ | ⟨g, cap, cur, rfl, hgg, _⟩
        · omega
        · exact ⟨g, by simp [Value.ownBlock], Nat.le_trans hg1.size hgg⟩
theorem V_convapp {w0 W : World} (base e : Nat) (hgd : o.guard = none) {N' : Tmp} (_hd : o.dst = some N') (s x : Operand) (t : TypeId) (ho : o.op = .call { callee := .builtin .append, args := #[s, x], argTypes := #[t, t] }) (ht : P.underlying t = some (.slice e)) (hinfo : (P.info? e).map (fun i => (i.zero, i.size, i.bytes)) = some (some (.int .u8 0), 1, 1))
    (S : ByteArray) (hs : a.eval s = .slice (some ⟨W.heap.size, 0, none⟩) S.size (grownCap W S.size 0 e)) (A : Option Addr) (m c : Nat) (ys : List Int) (hx : a.eval x = .slice A m c) (hC : (int .u8).C W A m ys) (hl : S.size + ys.length < 140737488355328)
    (HB : Below base w0 W) (hbase : base ≤ W.heap.size)
    (h : ∀ v1 w1, V (int .u8) e w1 base (fun k => W.heap.size ≤ k) v1 (bytesOf S ++ ys) → Below base w0 w1 → W.grownBy w1 none → (∃ b, v1.ownBlock = some b ∧ W.heap.size ≤ b) → wpList P ops Q rest (a.put o.dst v1) w1) : wpList P ops Q (o :: rest) a (Lib.bytesWorld W e S) := by
  obtain ⟨v1, w1, hr, h1, h2, h3⟩ := run_convapp (P := P) (W := W) base t o.type e ht hinfo S A m c ys hC hl
  refine wpList_plain hgd fun K hK => ?_
  unfold Oper.wp
  simp [execOp, ho, resolve, invoke, builtin, hs, hx, hr, Result.andThen]
  exact hK _ _ (h v1 w1 h1 (HB.grown h2 hbase (by simp)) h2 h3)
end
end Kd
namespace Kd
section
variable {P : Program} {ops : Array Oper} {rest : List Oper} {o : Oper} {a : Act} {Q : Exit → Act → World → Prop} {Kc : Act → World → Prop}
theorem mark_go {W : World} {t e : TypeId} {C : Array Value} {n c : Nat} (hgd : o.guard = none) (x : Operand) (ho : o.op = .convert t t x) (ht : P.underlying t = some (.slice e)) (he : P.underlying e = some (.int .u8)) (hx : a.eval x = .slice (some ⟨W.heap.size, 0, none⟩) n c)
    (h : wpList P ops Q rest (a.put o.dst (.slice (some ⟨W.heap.size, 0, none⟩) n c)) (W.alloc (.cells C e (C.size, C.size + 1)))) : wpList P ops Q (o :: rest) a (W.alloc (.cells C e)) :=
  event_run hgd (by
    unfold execOp
    simp only [ho, hx, Sem.run_bind, Lib.run_convert_bytes_const W t e C n c ht he, Result.andThen_ok, Sem.run_pure]) h
end
end Kd
def FarW (g : Nat) (W W' : World) : Prop := ∀ k, k ≠ g → k < W.heap.size → W'.heap[k]? = W.heap[k]?
theorem FarW.refl (g : Nat) (W : World) : FarW g W W := fun _ _ _ => rfl
theorem FarW.set {g : Nat} {W W' : World} (h : FarW g W W') (i : Nat) (u : Value) : FarW g W (W'.setCell ⟨g, i, none⟩ u) := fun k hk hlt => (Below.heap_setCell W' ⟨g, i, none⟩ u k hk).trans (h k hk hlt)
theorem Kd.R_fars {α : Type} {d : Kd α} {e base g : Nat} {W W' : World} {ok : Nat → Prop} {v : Value} {xs : List α} (h : d.R e W base ok v xs) (hok : ∀ k, ok k → k ≠ g) (hf : FarW g W W' := by repeat (first | with_reducible exact FarW.refl _ _ | with_reducible refine FarW.set ?_ _ _)) : d.R e W' base ok v xs := Kd.R_step h (fun k hk hlt => hf k (hok k hk) hlt)
theorem Kd.V_fars {α : Type} {d : Kd α} {e base g : Nat} {W W' : World} {ok : Nat → Prop} {v : Value} {xs : List α} (h : d.V e W base ok v xs) (hok : ∀ k, ok k → k ≠ g) (hf : FarW g W W' := by repeat (first | with_reducible exact FarW.refl _ _ | with_reducible refine FarW.set ?_ _ _)) : d.V e W' base ok v xs := by
  obtain ⟨A, c, hv, hc, hF⟩ := h
  exact ⟨A, c, hv, hc, Kd.F_step hF (fun k hk hlt => hf k (hok k hk) hlt)⟩
end Go.Proofs.YtehdbobpbcjmeaaW.PrintWords

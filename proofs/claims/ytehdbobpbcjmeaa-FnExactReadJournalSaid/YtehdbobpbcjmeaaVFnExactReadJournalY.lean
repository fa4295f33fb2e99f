/- Words that the law's texts use (taken out of the print's words by a program of this session). No condition of its own. -/
import Derived.Test.YtehdbobpbcjmeaaVFnExactReadJournalWWords
import Derived.Test.YtehdbobpbcjmeaaVFnExactReadJournalWLast
import Derived.Test.YtehdbobpbcjmeaaVFnExactReadJournalWApart
import Derived.Test.YtehdbobpbcjmeaaVFnExactReadJournalWFoot
import Derived.Test.YtehdbobpbcjmeaaVFnExactReadJournalWKept
import Derived.Test.YtehdbobpbcjmeaaVFnExactReadJournalWShare
import Derived.Test.YtehdbobpbcjmeaaVFnExactReadJournalWN
import Derived.Test.YtehdbobpbcjmeaaVFnExactReadJournalWMore
import Derived.Test.YtehdbobpbcjmeaaVFnExactReadJournalX
import Derived.Lib.ConvBytes
namespace Go.Proofs.YtehdbobpbcjmeaaW.PrintWords
open Go.RowKit
theorem blk_cells8 {w : World} {g : Nat} {T : TypeId} {v0 v1 v2 v3 v4 v5 v6 v7 : Value} (h : w.heap[g]? = some (.cells #[v0, v1, v2, v3, v4, v5, v6, v7] T (0, 0))) :
    w.cell? ⟨g, 0, none⟩ = some v0 ∧ w.cell? ⟨g, 1, none⟩ = some v1 ∧ w.cell? ⟨g, 2, none⟩ = some v2 ∧ w.cell? ⟨g, 3, none⟩ = some v3 ∧ w.cell? ⟨g, 4, none⟩ = some v4 ∧ w.cell? ⟨g, 5, none⟩ = some v5 ∧ w.cell? ⟨g, 6, none⟩ = some v6 ∧ w.cell? ⟨g, 7, none⟩ = some v7 := ⟨(blk_cell h 0).trans rfl, (blk_cell h 1).trans rfl, (blk_cell h 2).trans rfl, (blk_cell h 3).trans rfl, (blk_cell h 4).trans rfl, (blk_cell h 5).trans rfl, (blk_cell h 6).trans rfl, (blk_cell h 7).trans rfl⟩
theorem blk_frozen8 {w : World} {g : Nat} {T : TypeId} {cs : Array Value} (h : w.heap[g]? = some (.cells cs T (0, 0))) :
    w.frozen? ⟨g, 0, none⟩ = false ∧ w.frozen? ⟨g, 1, none⟩ = false ∧ w.frozen? ⟨g, 2, none⟩ = false ∧ w.frozen? ⟨g, 3, none⟩ = false ∧ w.frozen? ⟨g, 4, none⟩ = false ∧ w.frozen? ⟨g, 5, none⟩ = false ∧ w.frozen? ⟨g, 6, none⟩ = false ∧ w.frozen? ⟨g, 7, none⟩ = false := ⟨blk_frozen h 0, blk_frozen h 1, blk_frozen h 2, blk_frozen h 3, blk_frozen h 4, blk_frozen h 5, blk_frozen h 6, blk_frozen h 7⟩
theorem ck_ {w w1 : World} {a : Addr} {v : Value} (hb : Below w.heap.size w w1) (h : w.cell? a = some v) : w1.cell? a = some v := (hb.cell (World.block_lt_of_cell? w _ h)).trans h
theorem Kd.S_olden {α : Type} {d : Kd α} {e : Nat} {W w1 : World} {base : Nat} {ok : Nat → Prop} {u v : Value} {xs : List α} (h : d.S e W base ok u xs) (hbase : ∀ k, v.ownBlock = some k → W.heap.size ≤ k) (hb : Below W.heap.size W w1) : d.S e w1 base (fun k_ => (ok k_ ∧ some k_ ≠ v.ownBlock) ∧ k_ ≠ (if W.heap.size ≤ k_ then k_ else k_ + 1)) u xs := by
  have h2 : d.S e W base (fun k_ => ok k_ ∧ k_ < W.heap.size) u xs := Kd.S_mono (Kd.S_bound h) (fun k hk => ⟨hk.1, hk.2.2.1⟩)
  exact Kd.S_mono (Kd.S_elder' h2 hbase hb) (fun k hk => ⟨⟨hk.1.1, hk.2⟩, by have := hk.1.2; rw [if_neg (by omega)]; omega⟩)
theorem Kd.S_young {α : Type} {d : Kd α} {e N : Nat} {w1 : World} {ok : Nat → Prop} {v : Value} {xs : List α} (h : d.S e w1 N ok v xs) : d.S e w1 N (fun k_ => ok k_ ∧ k_ ≠ (if N ≤ k_ then k_ + 1 else k_)) v xs :=
  Kd.S_mono (Kd.S_bound h) (fun k hk => ⟨hk.1, by have := hk.2.1; rw [if_pos this]; omega⟩)
theorem old_young {N k : Nat} (h1 : k ≠ (if N ≤ k then k else k + 1)) (h2 : k ≠ (if N ≤ k then k + 1 else k)) : False := by
  by_cases h : N ≤ k
  · rw [if_pos h] at h1; exact h1 rfl
  · rw [if_neg h] at h2; exact h2 rfl
theorem Kd.C_string_n {P : Program} {src dst e : TypeId} {W : World} {A : Option Addr} {xs : List Int} {c : Nat} (hs : P.underlying src = some (.slice e)) (he : P.underlying e = some (.int .u8)) (hd : P.underlying dst = some .string) (h : (Kd.int .u8).C W A xs.length xs) (n : Nat) (hn : xs.length = n) : (convert src dst (.slice A n c)).run P W = .ok (.string (strOfNums xs)) W := by
  subst hn
  exact Kd.C_string hs he hd h
instance up_refl (w : World) : Nonempty (Below w.heap.size w w) := ⟨Below.refl _ _⟩
instance up_alloc (w w1 : World) (o : Obj) [h : Nonempty (Below w.heap.size w w1)] : Nonempty (Below w.heap.size w (w1.alloc o)) := h.elim fun h => ⟨below_alloc h o⟩
instance up_drew (w w1 : World) [h : Nonempty (Below w.heap.size w w1)] : Nonempty (Below w.heap.size w w1.drew) := h.elim fun h => ⟨below_drew h⟩
instance up_drewN (w w1 : World) (n : Nat) [h : Nonempty (Below w.heap.size w w1)] : Nonempty (Below w.heap.size w (w1.drewN n)) := h.elim fun h => ⟨pw_below_drewN h n⟩
theorem up_ {w w1 : World} [h : Nonempty (Below w.heap.size w w1)] : Below w.heap.size w w1 := h.elim id
theorem HB_up {w0 w w1 : World} (h : Below w0.heap.size w0 w) [Nonempty (Below w.heap.size w w1)] : Below w0.heap.size w0 w1 := below_step h up_
theorem blk_up {w w1 : World} {g : Nat} {o : Obj} (h : w.heap[g]? = some o) [Nonempty (Below w.heap.size w w1)] : w1.heap[g]? = some o := blk_below h up_
section
variable {α : Type} {d : Kd α} {w w1 : World} {A : Option Addr} {n : Nat} {xs : List α} {e base : Nat} {ok : Nat → Prop} {v : Value} [Nonempty (Below w.heap.size w w1)]
theorem C_up (h : d.C w A n xs) : d.C w1 A n xs := Kd.C_below h up_
theorem R_up (h : d.R e w base ok v xs) : d.R e w1 base ok v xs := Kd.R_below h up_
theorem S_up (h : d.S e w base ok v xs) : d.S e w1 base ok v xs := Kd.S_below h up_
theorem V_up (h : d.V e w base ok v xs) : d.V e w1 base ok v xs := Kd.V_below h up_
end
theorem bytesWorld_below {w0 W : World} {base e : Nat} (s : ByteArray) (HB : Below base w0 W) (hbase : base ≤ W.heap.size) : Below base w0 (Lib.bytesWorld W e s) :=
  HB.trans ⟨rfl, rfl, rfl, by rw [Lib.bytesWorld_size]; omega, fun k hk => Lib.bytesWorld_at_old W e s k (by omega)⟩
theorem bytesWorld_grown {W : World} {e : Nat} (s : ByteArray) : W.grownBy (Lib.bytesWorld W e s) none :=
  ⟨rfl, rfl, rfl, by rw [Lib.bytesWorld_size]; omega, fun k hk _ => Lib.bytesWorld_at_old W e s k hk⟩
namespace Kd
theorem V_bytes (W : World) (e base : Nat) (s : ByteArray) (hm : s.size ≤ 9223372036854775807) :
    V (int .u8) e (Lib.bytesWorld W e s) base (fun k => W.heap.size ≤ k) (.slice (some ⟨W.heap.size, 0, none⟩) s.size (grownCap W s.size 0 e)) (bytesOf s) := by
  have hl : (bytesOf s).length = s.size := bytesOf_length s
  refine ⟨some ⟨W.heap.size, 0, none⟩, grownCap W s.size 0 e, by rw [hl], by rw [hl]; exact grownCap_ge W s.size 0 e, fun W' hW => ?_⟩
  have hn := hW W.heap.size (Nat.le_refl _) (by rw [Lib.bytesWorld_size]; omega)
  refine C_of_reads (d := (0 : Int)) ⟨rfl, by rw [hl]; exact hm, fun _ => ⟨_, rfl, fun j hj => ?_⟩⟩
  rw [show (⟨W.heap.size, 0, none⟩ : Addr).add j = ⟨W.heap.size, j, none⟩ by unfold Addr.add; split <;> simp_all]
  rw [World.cell?_of_block (w := Lib.bytesWorld W e s) hn, Lib.bytesWorld_cell W e s j (by omega)]
  congr 2
  rw [hl] at hj
  have h1 : j < s.data.toList.length := by simpa using hj
  simp only [bytesOf, List.getD, List.getElem?_map, List.getElem?_eq_getElem h1, Option.map_some, Option.getD_some]
section
variable {P : Program} {ops : Array Oper} {rest : List Oper} {o : Oper} {a : Act} {Q : Exit → Act → World → Prop} {Kc : Act → World → Prop}
theorem conv_run {W : World} {src dst e : Nat} {x : Operand} (ho : o.op = .convert src dst x) (hs : P.underlying src = some .string) (hd : P.underlying dst = some (.slice e)) (he : P.underlying e = some (.int .u8)) (s : ByteArray) (hx : a.eval x = .string s) :
    (execOp a.eval o).run P W = .ok (.value (.slice (some ⟨W.heap.size, 0, none⟩) s.size (grownCap W s.size 0 e))) (Lib.bytesWorld W e s) := by
  have hr := Lib.run_convert_string_bytes (P := P) W src dst e s hs hd he
  unfold execOp
  simp only [ho, hx, Sem.run_bind, hr, Result.andThen_ok, Sem.run_pure]
theorem V_conv_step {w0 W : World} (base e : Nat) (hw : Region.wanted o (yielded ops a.tmps) = true) {N' : Tmp} (_hd : o.dst = some N') (src dst : TypeId) (x : Operand) (ho : o.op = .convert src dst x) (hs : P.underlying src = some .string) (hd : P.underlying dst = some (.slice e)) (he : P.underlying e = some (.int .u8)) (s : ByteArray) (hx : a.eval x = .string s) (hm : s.size ≤ 9223372036854775807)
    (HB : Below base w0 W) (hbase : base ≤ W.heap.size)
    (h : ∀ v1 w1, V (int .u8) e w1 base (fun k => W.heap.size ≤ k) v1 (bytesOf s) → Below base w0 w1 → W.grownBy w1 none → (∃ b, v1.ownBlock = some b ∧ W.heap.size ≤ b) → Kc (a.put o.dst v1) w1) : if Region.wanted o (yielded ops a.tmps) = true then Oper.wp P o a W Kc Q else Kc (a.put o.dst undef) W :=
  event_step hw (conv_run ho hs hd he s hx) (h _ _ (V_bytes W e base s hm) (bytesWorld_below s HB hbase) (bytesWorld_grown s) ⟨W.heap.size, by simp [Value.ownBlock], Nat.le_refl _⟩)
end
end Kd
section
variable {P : Program} {ops : Array Oper} {o : Oper} {a : Act} {Q : Exit → Act → World → Prop} {Kc : Act → World → Prop}
theorem print_append_str_step {w0 W : World} (base : Nat) (hw : Region.wanted o (yielded ops a.tmps) = true) (s x : Operand) (t u e : TypeId)
    (ho : o.op = .call { callee := .builtin .append, args := #[s, x], argTypes := #[t, u] })
    (ht : P.underlying t = some (.slice e)) (hu : P.underlying u = some .string) (hinfo : (P.info? e).map (fun i => (i.zero, i.size, i.bytes)) = some (some (.int .u8 0), 1, 1))
    (v : Value) (xs : List Int) (y : ByteArray) (hs : a.eval s = v) (hx : a.eval x = .string y)
    (HO : W.ownsRow base e 1 v xs.length (nums .u8 xs)) (HB : Below base w0 W) (hbase : base ≤ W.heap.size) (hl : xs.length + y.size ≤ 140737488355328)
    (h : ∀ v1 w1, w1.ownsRow base e 1 v1 (xs ++ bytesOf y).length (nums .u8 (xs ++ bytesOf y)) → Below base w0 w1 → W.grownBy w1 v.ownBlock → Kc (a.put o.dst v1) w1) :
    if Region.wanted o (yielded ops a.tmps) = true then Oper.wp P o a W Kc Q else Kc (a.put o.dst undef) W := by
  obtain ⟨i0, hi, hzz⟩ := Option.map_eq_some_iff.1 hinfo
  simp only [Prod.mk.injEq] at hzz
  obtain ⟨hz0, hz1, hz2⟩ := hzz
  rw [if_pos hw]
  obtain ⟨v1, w1, hr, hown, hg, _⟩ := Lib.run_append_own_string (P := P) W base t u o.type e i0 ht hu hi hz0 hz1 hz2 v xs.length (nums .u8 xs) HO y (by simp only [maxLen]; omega) hl hbase
  unfold Oper.wp execOp
  simp only [ho, resolve, invoke, builtin, Sem.run_bind, Sem.run_pure, Result.andThen_ok, List.map_toArray, List.map_cons, List.map_nil, hs, hx, hr]
  have hl2 : (xs ++ bytesOf y).length = xs.length + y.size := by rw [List.length_append, bytesOf_length]
  have hc : nums .u8 (xs ++ bytesOf y) = nums .u8 xs ++ Lib.strCells y := by
    rw [nums_append]
    congr 1
    simp [nums, bytesOf, Lib.strCells]
  exact h v1 w1 (by rw [hl2, hc]; exact hown) (HB.grown hg hbase (own_base HO)) hg
end
def cpy (xs ys : List Int) : List Int := ys.take xs.length ++ xs.drop ys.length
theorem cpy_length (xs ys : List Int) : (cpy xs ys).length = xs.length := by
  simp only [cpy, List.length_append, List.length_take, List.length_drop]
  omega
section
variable {P : Program} {ops : Array Oper} {rest : List Oper} {o : Oper} {a : Act} {Q : Exit → Act → World → Prop}
theorem run_copy_nums {W : World} (base : Nat) (t ty e : TypeId) (hu : P.underlying t = some (.slice e)) (hsz : (P.info? e).map (·.size) = some 1) (v : Value) (xs ys : List Int) (A : Option Addr) (n c : Nat)
    (HO : W.ownsRow base e 1 v xs.length (nums .u8 xs)) (HR : (Kd.int .u8).C W A n ys) :
    ∃ w1 k, (Builtin.copy_ #[t, t] ty #[v, .slice A n c]).run P W = .ok (goInt k) w1 ∧ w1.ownsRow base e 1 v (cpy xs ys).length (nums .u8 (cpy xs ys)) ∧ W.grownBy w1 v.ownBlock := by
  have hR := Kd.reads_of_C (d := (0 : Int)) HR
  obtain ⟨hn, _, hcell⟩ := hR
  by_cases h0 : Nat.min n xs.length = 0
  · refine ⟨W, 0, ?_, ?_, ⟨rfl, rfl, rfl, Nat.le_refl _, fun _ _ _ => rfl⟩⟩
    · rcases HO.2 with ⟨rfl, hx⟩ | ⟨g, cap, cur, rfl, _⟩
      · have hx0 : xs.length = 0 := hx
        exact run_copy_none (P := P) W t t ty e none A 0 0 n c hu hsz (Nat.min_eq_right (Nat.zero_le _))
      · exact run_copy_none (P := P) W t t ty e _ A xs.length cap n c hu hsz h0
    · have hc : cpy xs ys = xs := by
        rcases Nat.eq_zero_or_pos n with h | h
        · have : ys = [] := List.eq_nil_of_length_eq_zero (by omega)
          subst this
          simp [cpy]
        · have hx0 : xs.length = 0 := by have h1 := (show Nat.min n xs.length = min n xs.length from rfl); omega
          have : xs = [] := List.eq_nil_of_length_eq_zero hx0
          subst this
          simp [cpy]
      rw [hc]
      exact HO
  · have hmin : 0 < n ∧ 0 < xs.length := by have h1 := (show Nat.min n xs.length = min n xs.length from rfl); omega
    rcases HO with ⟨hl, ⟨rfl, hx⟩ | ⟨g, cap, cur, rfl, hbg, hg, hnc, hcm, hcs, htake⟩⟩
    · have hx0 : xs.length = 0 := hx
      omega
    · obtain ⟨ad, rfl, hcell2⟩ := hcell hmin.1
      have hcl : (nums .u8 (ys.take xs.length)).length = Nat.min n xs.length := by
        have h1 := (show Nat.min n xs.length = min n xs.length from rfl)
        simp only [nums, List.length_map, List.length_take, hn]
        omega
      have hcs' : cur.size = cap := by simpa using hcs
      have hle : Nat.min n xs.length ≤ xs.length := Nat.min_le_right _ _
      have hle2 : Nat.min n xs.length ≤ n := Nat.min_le_left _ _
      have hr := run_copy_row (P := P) W t t ty e g 0 xs.length cap ad n c cur e (nums .u8 (ys.take xs.length)) hu hsz hg hcl (fun j u hj => ?_) (by omega) (fun u hu => ?_)
      · refine ⟨_, _, hr, ⟨by simp [nums], .inr ⟨g, cap, _, by rw [cpy_length], hbg, setRow_heap W g cur _ e _ hg, by rw [cpy_length]; exact hnc, hcm, ?_, ?_⟩⟩, ⟨rfl, rfl, rfl, by simp [World.setRow], fun k _ hk => setRow_other W g k _ (fun e => hk (by simp [Value.ownBlock, e]))⟩⟩
        · simp only [List.take_zero, List.nil_append, List.size_toArray, List.length_append, List.length_drop, Array.length_toList, Nat.zero_add]
          omega
        · have ht : cur.toList.take xs.length = nums .u8 xs := by simpa using htake
          simp only [List.take_zero, List.nil_append, Nat.zero_add, Nat.mul_one, cpy_length]
          have hk : (nums .u8 (ys.take xs.length)).length ≤ xs.length := by omega
          have hd : (cur.toList.drop (nums .u8 (ys.take xs.length)).length).take (xs.length - (nums .u8 (ys.take xs.length)).length) = (nums .u8 xs).drop (nums .u8 (ys.take xs.length)).length := by
            rw [← ht, List.drop_take]
          rw [List.take_append, List.take_of_length_le hk, hd]
          simp only [nums, cpy, List.map_append, List.map_drop, List.map_take, List.length_take, List.length_map]
          congr 1
          rcases Nat.le_total ys.length xs.length with h | h
          · rw [Nat.min_eq_right h]
          · rw [Nat.min_eq_left h, List.drop_eq_nil_of_le (by simp), List.drop_eq_nil_of_le (by simpa using h)]
      · obtain ⟨hjl, hje⟩ := List.getElem?_eq_some_iff.1 hj
        simp only [nums, List.length_map, List.length_take] at hjl
        rw [hcell2 j (by omega), ← hje]
        have hj2 : j < ys.length := by omega
        simp [nums, List.getD, hj2]
      · simp only [nums, List.mem_map] at hu
        obtain ⟨z, _, rfl⟩ := hu
        rfl
theorem Kd.R_copyv {w0 W : World} (base : Nat) (hgd : o.guard = none) (s x : Operand) (t e : TypeId)
    (ho : o.op = .call { callee := .builtin .copy, args := #[s, x], argTypes := #[t, t] })
    (ht : P.underlying t = some (.slice e)) (hinfo : (P.info? e).map (fun i => (i.zero, i.size, i.bytes)) = some (some (.int .u8 0), 1, 1))
    (v : Value) (xs ys : List Int) (A : Option Addr) (n c : Nat) (ok : Nat → Prop) (hs : a.eval s = v) (hx : a.eval x = .slice A n c) (HO : (Kd.int .u8).R e W base ok v xs) (HR : (Kd.int .u8).C W A n ys)
    (HB : Below base w0 W) (hbase : base ≤ W.heap.size)
    (h : ∀ v1 w1, v1 = v → (Kd.int .u8).R e w1 base ok v1 (cpy xs ys) → Below base w0 w1 → W.grownBy w1 v.ownBlock → (v1.ownBlock = v.ownBlock ∨ ∃ b, v1.ownBlock = some b ∧ W.heap.size ≤ b) → ∀ k, wpList P ops Q rest (a.put o.dst (goInt k)) w1) :
    wpList P ops Q (o :: rest) a W := by
  obtain ⟨i0, hi, hzz⟩ := Option.map_eq_some_iff.1 hinfo
  simp only [Prod.mk.injEq] at hzz
  have hsz : (P.info? e).map (·.size) = some 1 := by rw [hi]; simp [hzz.2.1]
  have hown : W.ownsRow base e 1 v xs.length (nums .u8 xs) := Kd.own_of_R HO
  obtain ⟨w1, k, hr, hown1, hg⟩ := run_copy_nums (P := P) base t o.type e ht hsz v xs ys A n c hown HR
  refine wpList_plain hgd fun K hK => ?_
  unfold Oper.wp execOp
  simp only [ho, resolve, invoke, builtin, Sem.run_bind, Sem.run_pure, Result.andThen_ok, List.map_toArray, List.map_cons, List.map_nil, hs, hx, hr]
  exact hK _ _ (h v w1 rfl (Kd.R_of_own hown1 HO.1) (HB.grown hg hbase (own_base hown)) hg (.inl rfl) k)
end
theorem od_ {p : Prop} [Decidable p] (h : decide p = true := by first | (with_reducible assumption) | assumption) : p := of_decide_eq_true h
theorem vl_ {p : Prop} (h : p := by first | rfl | (simp; done) | (simp [*]; done) | (simp; generalize ByteArray.toList _ = zq_; cases zq_ <;> rfl)) : p := h
theorem dr_ {p : Prop} (h : p := by repeat (first | exact Drawn0.refl _ | apply Drawn0.step)) : p := h
theorem le_ {p : Prop} (h : p := by first | omega | exact Nat.le_refl _) : p := h
theorem ve_ {p : Prop} (h : p := by first | rfl | (simp [errW_none, errW_some] <;> rfl) | (simp [*, errW_none, errW_some] <;> rfl)) : p := h
theorem hb_ {p : Prop} (h : p := by repeat (first | (with_reducible first | exact HB.out | apply below_alloc | apply pw_below_drewN | apply below_drew1) | exact HB.out)) : p := h
theorem hs_ {p : Prop} (h : p := by repeat (first | (with_reducible first | exact HB.out | apply below_alloc | apply pw_below_drewN | apply below_drew1 | refine below_set ?_ (Aside0.out (by assumption))) | exact HB.out)) : p := h
open Go.Proofs.YtehdbobpbcjmeaaW.PrintLast in
theorem goesY_ {P : Program} {ops : Array Oper} {Q : Exit → Act → World → Prop} {rest : List Oper} {oi : Oper} {a : Act} {w : World} (N : Option Tmp) {f : FuncId} {fn : Func} {as : Array Operand} {ts : Array TypeId} (hf : P.funcs[f]? = some fn) (args : Array Value)
    (hop : oi.op = .call { callee := .value (.func f), args := as, argTypes := ts })
    (h : Calls P f args w fun e w' => ∃ v, e = .returned v ∧ wpList P ops Q rest (a.put N v) w') (hd : oi.dst = N := by rfl) (hg : oi.guard = none := by rfl) (hname : (fn.name == "runtime.NumGoroutine") = false := by kernel_rfl) (hb : fn.body.isSome = true := by rfl)
    (hargs : as.map a.eval = args := by (try simp only [List.map_toArray, List.map_cons, List.map_nil]); first | done | rfl | (simp only [List.length_drop, List.length_take]; rfl)) : wpList P ops Q (oi :: rest) a w := goesL_ N hd hg hf hname hb args hop hargs h
end Go.Proofs.YtehdbobpbcjmeaaW.PrintWords

/- Words that the law's texts use (taken out of the print's words by a program of this session). No condition of its own. -/
import Derived.Test.YtehdbobpbcjmeaaVFnJournalsWWords
import Derived.Test.YtehdbobpbcjmeaaVFnJournalsWLast
import Derived.Test.YtehdbobpbcjmeaaVFnJournalsWApart
import Derived.Test.YtehdbobpbcjmeaaVFnJournalsWFoot
import Derived.Test.YtehdbobpbcjmeaaVFnJournalsWKept
import Derived.Test.YtehdbobpbcjmeaaVFnJournalsWShare
import Derived.Test.YtehdbobpbcjmeaaVFnJournalsWN
import Derived.Test.YtehdbobpbcjmeaaVFnJournalsWRepsOne
import Derived.Test.YtehdbobpbcjmeaaVFnJournalsWNEv
import Derived.Test.YtehdbobpbcjmeaaVFnJournalsWMore
import Derived.Test.YtehdbobpbcjmeaaVFnJournalsX
import Derived.Test.YtehdbobpbcjmeaaVFnJournalsY
import Derived.Test.YtehdbobpbcjmeaaVFnJournalsZ
namespace Go.Proofs.YtehdbobpbcjmeaaW.PrintWords
open Go.RowKit
def Mo (e : TypeId) (o : Obj) (xs : List Int) : Prop := ∃ C : Array Value, o = .cells C e (C.size, C.size + 1) ∧ C.toList = nums .u8 xs
section
variable {P : Program} {ops : Array Oper} {rest : List Oper} {o o2 : Oper} {a : Act} {Q : Exit → Act → World → Prop} {om : Obj}
theorem V_litmark {W : World} {t e : TypeId} {N M : Tmp} (hgd : o.guard = none) (_hd : o.dst = some N) (hgd2 : o2.guard = none) (_hd2 : o2.dst = some M) {xs ys : List Int} (hy : Aside0 (ys = xs))
    (hrun : (execOp a.eval o).run P W = .ok (.value (.slice (some ⟨W.heap.size, 0, none⟩) xs.length xs.length)) (W.alloc (.cells (xs.map (Value.int .u8)).toArray e)))
    (ho2 : o2.op = .convert t t (.tmp N)) (ht : P.underlying t = some (.slice e)) (he : P.underlying e = some (.int .u8))
    (hx : (a.put o.dst (.slice (some ⟨W.heap.size, 0, none⟩) xs.length xs.length)).eval (.tmp N) = .slice (some ⟨W.heap.size, 0, none⟩) xs.length xs.length)
    (h : ∀ gm om w1, gm = W.heap.size → Mo e om ys → w1.heap[gm]? = some om → Below W.heap.size W w1 → wpList P ops Q rest ((a.put o.dst (.slice (some ⟨gm, 0, none⟩) ys.length ys.length)).put o2.dst (.slice (some ⟨gm, 0, none⟩) ys.length ys.length)) w1) : wpList P ops Q (o :: o2 :: rest) a W := by
  have h1 := hy.out
  subst h1
  refine Kd.event_run hgd hrun (Kd.mark_go hgd2 (.tmp N) ho2 ht he hx ?_)
  exact h W.heap.size _ _ rfl ⟨(ys.map (Value.int .u8)).toArray, rfl, by simp [nums]⟩ (heap_alloc_new W _) (below_alloc (Below.refl _ _) _)
theorem run_mkapp {W : World} {gm b0 : Nat} {xs ys : List Int} {e : TypeId} (hb : W.heap[gm]? = some om) (hom : Mo e om xs) (hg : b0 ≤ gm) (hW : b0 ≤ W.heap.size)
    (base : Nat) (t ty : TypeId) (ht : P.underlying t = some (.slice e)) (hinfo : (P.info? e).map (fun i => (i.zero, i.size, i.bytes)) = some (some (.int .u8 0), 1, 1))
    (A : Option Addr) (m c : Nat) (hC : (Kd.int .u8).C W A m ys) (hl : xs.length + ys.length < 140737488355328) :
    ∃ v1 w1, (Builtin.append_ #[t, t] ty #[.slice (some ⟨gm, 0, none⟩) xs.length xs.length, .slice A m c]).run P W = .ok v1 w1 ∧ (Kd.int .u8).V e w1 base (fun k => b0 ≤ k) v1 (xs ++ ys) ∧ Below W.heap.size W w1 := by
  obtain ⟨C, rfl, hCx⟩ := hom
  have hCs : C.size = xs.length := by rw [← Array.length_toList, hCx]; simp [nums]
  obtain ⟨i0, hi, hzz⟩ := Option.map_eq_some_iff.1 hinfo
  simp only [Prod.mk.injEq] at hzz
  obtain ⟨hz0, hz1, hz2⟩ := hzz
  have hr0 := Kd.reads_of_C (d := (0 : Int)) hC
  have hm : ys.length = m := hr0.1
  subst hm
  have hlen : (xs ++ ys).length = xs.length + ys.length := by rw [List.length_append]
  have htk : C.toList.take xs.length = nums .u8 xs := by rw [hCx, List.take_of_length_le (by simp [nums])]
  rcases Nat.eq_zero_or_pos ys.length with h0 | h0
  · obtain rfl : ys = [] := List.eq_nil_of_length_eq_zero h0
    refine ⟨.slice (some ⟨gm, 0, none⟩) xs.length xs.length, W, ?_, ?_, Below.refl _ _⟩
    · rcases A with _ | ad
      · simp [Builtin.append_, run_underlying ht, sizeOf, typeInfo, hi, Builtin.lenOf, Builtin.firstCells, storeCells]
      · have hrun := run_append_room_cells (P := P) W t ty e i0 ht hi gm 0 xs.length xs.length ad 0 c [] (by simp) (by intro j u hu; simp at hu) (by intro u hu; simp at hu) (by omega) (fun j hj => by simp at hj) (fun j hj => by simp at hj)
        exact hrun.trans rfl
    · rw [List.append_nil]
      exact Kd.V_of_block hb htk (Nat.le_refl _) (by omega) hg
  · obtain ⟨ad, rfl, hcell⟩ := hr0.2.2 h0
    have hcells : ∀ j u, (nums .u8 ys)[j]? = some u → W.cell? (ad.add j) = some u := by
      intro j u hu
      have hj : j < ys.length := by
        have := (List.getElem?_eq_some_iff.1 hu).1
        simpa [nums] using this
      rw [hcell j hj]
      simp only [nums, List.getElem?_map, List.getElem?_eq_getElem hj, Option.map_some, Option.some.injEq] at hu
      rw [← hu]
      simp only [List.getD, List.getElem?_eq_getElem hj, Option.getD_some]
    have hnl : (nums .u8 ys).length = ys.length := by simp [nums]
    obtain ⟨v', w', hrun, ho, hgr⟩ := run_append_arg_grows (P := P) W t ty e i0 (.int .u8 0) 1 1 ht hi hz0 hz1 hz2 rfl (by decide) ⟨gm, 0, none⟩ xs.length xs.length (nums .u8 xs) (by simp [nums]) (fun j u hu => by
        have hj : j < xs.length := by have := (List.getElem?_eq_some_iff.1 hu).1; simpa [nums] using this
        rw [show (⟨gm, 0, none⟩ : Addr).add j = ⟨gm, j, none⟩ by unfold Addr.add; split <;> simp_all]
        simp only [World.cell?, hb, Option.isSome_none, Bool.false_eq_true, if_false]
        rw [← htk, List.getElem?_take_of_lt hj, Array.getElem?_toList] at hu
        exact hu) ad ys.length c (nums .u8 ys) (by rw [hnl, Nat.mul_one]) hcells (by omega) (by simp only [maxLen]; omega) (by omega)
    refine ⟨v', w', hrun, ?_, ⟨hgr.os, hgr.tape, hgr.output, hgr.size, fun k hk => hgr.block k hk (by simp)⟩⟩
    rcases ho.2 with ⟨rfl, hn⟩ | ⟨g, cap, cur, rfl, hgg, hh, hnc, hcm, hsz, htt⟩
    · omega
    · rw [← hlen]
      refine Kd.V_of_block hh ?_ (by rw [hlen]; exact hnc) (by omega) (Nat.le_trans hW hgg)
      rw [nums_append, ← htt, hlen]
      simp
theorem mo_C {w W : World} {gm n : Nat} {xs : List Int} {e : TypeId} (hb : Aside0 (w.heap[gm]? = some om)) (hom : Aside0 (Mo e om xs)) (hl : Aside0 (n + xs.length < 140737488355328)) [Nonempty (Below w.heap.size w W)] : (Kd.int .u8).C W (some ⟨gm, 0, none⟩) xs.length xs := by
  obtain ⟨C, rfl, hCx⟩ := hom.out
  have h := Kd.V_of_block (g := gm) (N := 0) (e := e) (base := 0) (c := xs.length) (blk_up (w1 := W) hb.out) (by rw [hCx, List.take_of_length_le (by simp [nums])]) (Nat.le_refl _) (by have := hl.out; omega) (Nat.zero_le _)
  exact (Kd.V_reads' h).2.2
theorem V_mkapp {w W : World} {gm b0 : Nat} {xs ys : List Int} {e : TypeId} (base : Nat) (hgd : o.guard = none) {N' : Tmp} (_hd : o.dst = some N') (s x : Operand) (t : TypeId) (ho : o.op = .call { callee := .builtin .append, args := #[s, x], argTypes := #[t, t] }) (ht : P.underlying t = some (.slice e)) (hinfo : (P.info? e).map (fun i => (i.zero, i.size, i.bytes)) = some (some (.int .u8 0), 1, 1))
    (hs : a.eval s = .slice (some ⟨gm, 0, none⟩) xs.length xs.length) (A : Option Addr) (m c : Nat) (hx : a.eval x = .slice A m c) (hb : Aside0 (w.heap[gm]? = some om)) (hom : Aside0 (Mo e om xs)) (hg : Aside0 (b0 ≤ gm)) (hW : b0 ≤ W.heap.size) (hC : (Kd.int .u8).C W A m ys) (hl : Aside0 (xs.length + ys.length < 140737488355328)) [Nonempty (Below w.heap.size w W)]
    (h : ∀ v1 w1, (Kd.int .u8).V e w1 base (fun k => b0 ≤ k) v1 (xs ++ ys) → Below W.heap.size W w1 → wpList P ops Q rest (a.put o.dst v1) w1) : wpList P ops Q (o :: rest) a W := by
  obtain ⟨v1, w1, hr, h1, h2⟩ := run_mkapp (P := P) (blk_up hb.out) hom.out hg.out hW base t o.type ht hinfo A m c hC hl.out
  refine wpList_plain hgd fun K hK => ?_
  unfold Oper.wp
  simp [execOp, ho, resolve, invoke, builtin, hs, hx, hr, Result.andThen]
  exact hK _ _ (h v1 w1 h1 h2)
theorem Kd.V_convappn {w0 W : World} {n : Nat} (base e : Nat) (hgd : o.guard = none) {N' : Tmp} (hd : o.dst = some N') (s x : Operand) (t : TypeId) (ho : o.op = .call { callee := .builtin .append, args := #[s, x], argTypes := #[t, t] }) (ht : P.underlying t = some (.slice e)) (hinfo : (P.info? e).map (fun i => (i.zero, i.size, i.bytes)) = some (some (.int .u8 0), 1, 1))
    (S : ByteArray) (hs : a.eval s = .slice (some ⟨W.heap.size, 0, none⟩) n (grownCap W n 0 e)) (A : Option Addr) (m c : Nat) (ys : List Int) (hx : a.eval x = .slice A m c) (hC : (Kd.int .u8).C W A m ys) (hl : S.size + ys.length < 140737488355328)
    (HB : Below base w0 W) (hbase : base ≤ W.heap.size)
    (h : ∀ v1 w1, (Kd.int .u8).V e w1 base (fun k => W.heap.size ≤ k) v1 (bytesOf S ++ ys) → Below base w0 w1 → W.grownBy w1 none → (∃ b, v1.ownBlock = some b ∧ W.heap.size ≤ b) → wpList P ops Q rest (a.put o.dst v1) w1) (hn : S.size = n := by first | rfl | (simp only [ByteArray.size_append]; rfl)) : wpList P ops Q (o :: rest) a (Lib.bytesWorld W e S) := by
  subst hn
  exact Kd.V_convapp base e hgd hd s x t ho ht hinfo S hs A m c ys hx hC hl HB hbase h
end
end Go.Proofs.YtehdbobpbcjmeaaW.PrintWords

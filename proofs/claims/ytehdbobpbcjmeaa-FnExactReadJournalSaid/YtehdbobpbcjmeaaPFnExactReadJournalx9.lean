/- Functions of the program as Lean functions, each with the proof that its call comes to what that function says (texts written by a program of this session). Conditions: those that stand in each theorem. -/
import Derived.Test.YtehdbobpbcjmeaaPFnExactReadJournalx0
import Derived.Test.YtehdbobpbcjmeaaPFnExactReadJournalx7
import Derived.Test.YtehdbobpbcjmeaaPFnExactReadJournalx8
namespace Go.Proofs.Ytehdbobpbcjmeaa.PFnExactReadJournal
open Go.RowKit Go.Proofs.YtehdbobpbcjmeaaW.PrintWords Go.Proofs.YtehdbobpbcjmeaaW.PrintLast Go.Proofs.YtehdbobpbcjmeaaW.PrintMore
attribute [local go_sem] max2_int min2_int max_two min_two max_three min_three max_four min_four   -- for this text's walks alone
set_option linter.unusedVariables false
set_option linter.unusedSimpArgs false

/-! ### impl_readOp: function 51 -/
mutual
def impl_readOp.j0 : Nat → List Int → Int → Bool → List Int → Bool → Option (Int × ByteArray × ByteArray × List Int × Int × Int × Int × List Int × Int)
 | 0, _, _, _, _, _ => none
 | k + 1, x0, x5, x21, x419000, x419001 => if x21 = true then (some (0, (⟨#[]⟩ : ByteArray), (⟨#[]⟩ : ByteArray), ([] : List Int), 0, 0, 0, ([] : List Int), 0)) else (if 2 ≤ (mx 2 x5) then (if (mx 2 x5) ≤ (x0.length : Int) then ((impl_taker_one.f ((x0.take ((mx 2 x5) : Int).toNat).drop 2) x419001).bind fun bt424 => ((impl_taker_one.f bt424.2.1 bt424.2.2).bind fun bt428 => ((impl_taker_take.f bt428.2.1 bt428.2.2 bt428.1).bind fun bt431 => ((impl_taker_one.f bt431.2.1 bt431.2.2).bind fun bt437 => ((impl_taker_take.f bt437.2.1 bt437.2.2 bt437.1).bind fun bt440 => ((impl_taker_one.f bt440.2.1 bt440.2.2).bind fun bt446 => (impl_readOp.l0 k x0 x5 bt446.1 0 bt446.2.1 bt446.2.2 bt424.1 (strOfNums bt431.1) (strOfNums bt440.1) ([] : List Int) 0 0 0))))))) else (none)) else (none))
def impl_readOp.l0 : Nat → List Int → Int → Int → Int → List Int → Bool → Int → ByteArray → ByteArray → List Int → Int → Int → Int → Option (Int × ByteArray × ByteArray × List Int × Int × Int × Int × List Int × Int)
 | 0, _, _, _, _, _, _, _, _, _, _, _, _, _ => none
 | k + 1, x0, x5, x46, x47, x419000, x419001, x428000, x428001, x428002, x428003, x428004, x428005, x428006 => if x47 < x46 then ((impl_taker_two.f x419000 x419001).bind fun bt449 => (if x428003.length < 17592186044416 then (impl_readOp.l0 k x0 x5 x46 (wrap64 (x47 + 1)) bt449.2.1 bt449.2.2 x428000 x428001 x428002 (x428003 ++ [bt449.1]) x428004 x428005 x428006) else (none))) else ((impl_taker_one.f x419000 x419001).bind fun bt455 => ((impl_taker_one.f bt455.2.1 bt455.2.2).bind fun bt458 => ((impl_taker_two.f bt458.2.1 bt458.2.2).bind fun bt461 => ((some (([] : List Int) : List Int)).bind fun y464 => ((impl_taker_two.f bt461.2.1 bt461.2.2).bind fun bt467 => ((impl_taker_take.f bt467.2.1 bt467.2.2 bt467.1).bind fun bt470 => (if y464.length + bt470.1.length < 140737488355328 then ((some (y464 ++ bt470.1 : List Int)).bind fun y476 => (if bt470.2.2 = true then (some (0, (⟨#[]⟩ : ByteArray), (⟨#[]⟩ : ByteArray), ([] : List Int), 0, 0, 0, ([] : List Int), 0)) else ((impl_OpFault.f k x428000 x428001 x428002 x428003 bt455.1 bt458.1 bt461.1 y476).bind fun t480 => (if t480 = 0 then ((impl_packed.f k x428000 x428001 x428002 x428003 bt455.1 bt458.1 bt461.1 y476).bind fun t481 => (if 0 ≤ x5 then (if x5 ≤ (x0.length : Int) then ((bytes_Equal.f t481 (x0.take (x5 : Int).toNat)).bind fun t485 => (if t485 = true then (some (x428000, x428001, x428002, x428003, bt455.1, bt458.1, bt461.1, y476, x5)) else (some (0, (⟨#[]⟩ : ByteArray), (⟨#[]⟩ : ByteArray), ([] : List Int), 0, 0, 0, ([] : List Int), 0)))) else (none)) else (none))) else (some (0, (⟨#[]⟩ : ByteArray), (⟨#[]⟩ : ByteArray), ([] : List Int), 0, 0, 0, ([] : List Int), 0)))))) else (none))))))))
end
def impl_readOp.f (k : Nat) (l0 : List Int) : Option (Int × ByteArray × ByteArray × List Int × Int × Int × Int × List Int × Int) := (impl_taker_two.f l0 false).bind fun bt419 => (if bt419.2.2 = true then (impl_readOp.j0 k l0 bt419.1 true bt419.2.1 bt419.2.2) else ((impl_length_byte.f l0).bind fun t422 => (impl_readOp.j0 k l0 bt419.1 (decide (bt419.1 > t422)) bt419.2.1 bt419.2.2)))
def impl_readOp.T11 : Bool × List (List Nat × List Nat) := (true, [([], []), ([0], [0]), ([], []), ([2], [2]), ([3], [3]), ([1, 4, 3], [1, 4]), ([0, 1, 2, 3, 4, 5], []), ([6, 5, 5, 0, 1, 2, 3, 4, 5], [5, 6])])
def impl_readOp.B11 : List Nat := [0, 1, 0, 4, 12, 31, 63, 127]
theorem impl_readOp.tab11 : rtab .any (opsOf Try.f51 11) = impl_readOp.T11 := by kernel_rfl
theorem impl_readOp.bits11 : waitsOk impl_readOp.T11.2 impl_readOp.B11 = true := by kernel_rfl
def impl_readOp.T17 : Bool × List (List Nat × List Nat) := (true, [([], []), ([0], [0]), ([1], [1]), ([2], [2]), ([3], [3]), ([4], [4]), ([5, 4, 4], [4, 5]), ([6, 4], [4, 6]), ([4, 7], [4, 7]), ([8, 6], [8]), ([9], [9]), ([10, 9, 9], [9, 10]), ([9], [9]), ([9], [9]), ([12, 13, 9], [9, 12, 13]), ([11, 14, 11, 9], [9, 11, 14]), ([15, 9], [9, 15]), ([9, 16], [9, 16])])
def impl_readOp.B17 : List Nat := [0, 1, 3, 7, 15, 31, 63, 127, 255, 511, 1023, 2047, 1023, 1023, 13311, 32767, 65535, 131071]
theorem impl_readOp.tab17 : rtab .any (opsOf Try.f51 17) = impl_readOp.T17 := by kernel_rfl
theorem impl_readOp.bits17 : waitsOk impl_readOp.T17.2 impl_readOp.B17 = true := by kernel_rfl
set_option maxHeartbeats 8000000 in
set_option maxRecDepth 100000 in
theorem impl_readOp.calls (k : Nat) (A0 : Option Addr) (c0 : Nat) (l0 : List Int) (r1 : Int) (r2 : ByteArray) (r3 : ByteArray) (r4 : List Int) (r5 : Int) (r6 : Int) (r7 : Int) (r8 : List Int) (r9 : Int) (w : World) (hr0 : Kd.C (Kd.int .u8) w A0 l0.length l0) (hc0 : l0.length ≤ c0) (h : impl_readOp.f k l0 = some (r1, r2, r3, r4, r5, r6, r7, r8, r9)) :
 Calls Try.prog 51 #[.slice A0 l0.length c0] w fun e w' => ∃ v3_ v7_ : Value, e = .returned (.tuple #[.agg #[.int .i64 r1, .string r2, .string r3, v3_, .int .i64 r5, .int .i64 r6, .int .i64 r7, v7_], .int .i64 r9]) ∧ Kd.R (Kd.int .i64) 2 w' w.heap.size (fun _ => True) v3_ r4 ∧ Kd.R (Kd.int .u8) 5 w' w.heap.size (fun _ => True) v7_ r8 ∧ Below w.heap.size w w' := by
 have hu37 := Try.underlying37
 have hu99 := Try.underlying99
 have HR0 := Aside0.mk hr0
 have HC0 := Aside0.mk hc0
 clear hr0 hc0
 have HB := Aside0.mk (Below.refl w.heap.size w)
 have H : ((impl_taker_two.f l0 false).bind fun bt419 => (if bt419.2.2 = true then (impl_readOp.j0 k l0 bt419.1 true bt419.2.1 bt419.2.2) else ((impl_length_byte.f l0).bind fun t422 => (impl_readOp.j0 k l0 bt419.1 (decide (bt419.1 > t422)) bt419.2.1 bt419.2.2)))) = some (r1, r2, r3, r4, r5, r6, r7, r8, r9) := h
 clear h
 replace H := Option.bind_eq_some_iff.mp H
 obtain ⟨⟨t419, t420, t421⟩, A20, H⟩ := H
 (try dsimp only at H)
 have A2 := Aside0.mk A20
 clear A20
 have HC3 := Aside0.mk H
 clear H
 go_enter Try.func51, Try.ntmps51
 go_upto_region 3 with (first | ((with_reducible refine gate_dst (N := 2) rfl ?_); refine box_event ?hg (N := 2) ?hd (cs := #[.int .i64 0, .string (⟨#[]⟩ : ByteArray), .string (⟨#[]⟩ : ByteArray), .slice none 0 0, .int .i64 0, .int .i64 0, .int .i64 0, .slice none 0 0]) (t := 37) ?hr ?_; (case hd => rfl); (case hg => rfl); (case hr => first | (go_simp; done) | (go_simp; rfl)); intro gb417 hg w4 hbox hb; have n0_ := Aside0.mk (below_step (hb_) hb); have n1_ := Aside0.mk (hbox); have n2_ := Aside0.mk ((by rw [hg]; exact (below_size (hb_)) : w.heap.size ≤ gb417)); have n3_ := Aside0.mk ((by rw [hg]; exact (below_size (hb_)) : w.heap.size ≤ gb417)); clear HB; have HB := n0_; have BK417 := n1_; have GW417 := n2_; have GE417 := n3_; clear n0_ n1_ n2_ n3_; clear hb hbox hg) | ((with_reducible refine gate_dst (N := 9) rfl ?_); refine box_event ?hg (N := 9) ?hd (cs := #[.slice A0 l0.length c0, .bool false]) (t := 99) ?hr ?_; (case hd => rfl); (case hg => rfl); (case hr => first | (go_simp; done) | (go_simp; rfl)); intro gb418 hg w5 hbox hb; have n0_ := Aside0.mk (blk_below (g := gb417) (o := .cells #[.int .i64 0, .string (⟨#[]⟩ : ByteArray), .string (⟨#[]⟩ : ByteArray), .slice none 0 0, .int .i64 0, .int .i64 0, .int .i64 0, .slice none 0 0] 37 (0, 0)) (blk_up BK417.out) hb); have n1_ := Aside0.mk (below_step (hs_) hb); have n2_ := Aside0.mk (hbox); have n3_ := Aside0.mk ((by rw [hg]; exact (below_size (hs_)) : w.heap.size ≤ gb418)); have n4_ := Aside0.mk ((by rw [hg]; exact (below_size (hs_)) : w.heap.size ≤ gb418)); have n5_ := Aside0.mk ((by rw [hg]; exact Nat.ne_of_lt (blk_lt (g := gb417) (o := .cells #[.int .i64 0, .string (⟨#[]⟩ : ByteArray), .string (⟨#[]⟩ : ByteArray), .slice none 0 0, .int .i64 0, .int .i64 0, .int .i64 0, .slice none 0 0] 37 (0, 0)) (blk_up BK417.out)) : gb417 ≠ gb418)); have n6_ := Aside0.mk ((by rw [hg]; exact Nat.ne_of_gt (blk_lt (g := gb417) (o := .cells #[.int .i64 0, .string (⟨#[]⟩ : ByteArray), .string (⟨#[]⟩ : ByteArray), .slice none 0 0, .int .i64 0, .int .i64 0, .int .i64 0, .slice none 0 0] 37 (0, 0)) (blk_up BK417.out)) : gb418 ≠ gb417)); clear BK417; clear HB; have BK417 := n0_; have HB := n1_; have BK418 := n2_; have GW418 := n3_; have GE418 := n4_; have NB417_418 := n5_; have NB418_417 := n6_; clear n0_ n1_ n2_ n3_ n4_ n5_ n6_; clear hb hbox hg; have HI418 := Aside0.mk (show IsS99 w w5 gb418 l0 false from ⟨A0, c0, (blk_up BK418.out), GE418.out, HR0.out, (by exact HC0.out)⟩); clear BK418) | ((with_reducible refine gate_callee (f := 87) rfl ?_); refine goesY_ (some 11) Try.func87 #[.pointer (some ⟨gb418, 0, none⟩)] rfl ?_; (with_reducible refine (impl_taker_two.calls gb418 l0 false t419 t420 t421 w _ ?side1 ?side2 A2.out).mono ?_); (case side1 => repeat (first | (with_reducible first | exact HI418.out | apply IsS99.alloc | apply IsS99.drewN | apply IsS99.drew | apply IsS99.set_1 | refine IsS99.far ?_ NB418_417.out _) | exact HI418.out)); (case side2 => repeat (first | (with_reducible first | exact HB.out | apply below_alloc | apply pw_below_drewN | apply below_drew1 | refine below_set ?_ (IsS99.ge HI418.out) | refine below_set ?_ GE417.out) | exact HB.out)); rintro e w6 ⟨rfl, hi, hb, hk⟩; refine ⟨_, rfl, ?_⟩; replace BK417 := Aside0.mk (KeepBut.blk hk (g' := gb417) (o := .cells #[.int .i64 0, .string (⟨#[]⟩ : ByteArray), .string (⟨#[]⟩ : ByteArray), .slice none 0 0, .int .i64 0, .int .i64 0, .int .i64 0, .slice none 0 0] 37 (0, 0)) (blk_up BK417.out) NB417_418.out (by simp)); replace HB := Aside0.mk (hb); replace HI418 := Aside0.mk (hi); (try clear hb)))
 (try simp only [Act.put, List.setIfInBounds_toArray, List.set_cons_zero, List.set_cons_succ])
 go_cut [21] (fun v21 wc => ∃ (kq : Nat) (x21_2 : Bool), v21 = .bool x21_2 ∧ Aside0 (impl_readOp.j0 kq l0 t419 x21_2 t420 t421 = some (r1, r2, r3, r4, r5, r6, r7, r8, r9)) ∧ Aside0 (kq ≤ k) ∧ Aside0 (wc.heap[gb417]? = some (.cells #[.int .i64 0, .string (⟨#[]⟩ : ByteArray), .string (⟨#[]⟩ : ByteArray), (.slice none 0 0), .int .i64 0, .int .i64 0, .int .i64 0, (.slice none 0 0)] 37 (0, 0))) ∧ Aside0 (IsS99 w wc gb418 t420 t421) ∧ Aside0 (Below w.heap.size w wc))
 case first =>
  have H := HC3.out
  clear HC3
  by_cases c7 : t421 = true
  ·
   subst c7
   (try rw [if_pos rfl] at H)
   have H' := Aside0.mk H
   clear H
   obtain ⟨ASz8_0, cSz8_0, HGz8, hgz8, HSz8_0, HSqz8_0⟩ := HI418.out
   have hcz8_0 := cellS99_0 HGz8
   have hcz8_1 := cellS99_1 HGz8
   have hfz8_0 := blk_frozen HGz8 0
   have hfz8_1 := blk_frozen HGz8 1
   clear HGz8 hgz8
   go_wp2
   go_meet
   case rel => exact ⟨_, (true), vl_, H', ⟨le_⟩, ⟨blk_up BK417.out⟩, ⟨by repeat (first | (with_reducible first | exact HI418.out | apply IsS99.alloc | apply IsS99.drewN | apply IsS99.drew | apply IsS99.set_1 | refine IsS99.far ?_ NB418_417.out _) | exact HI418.out)⟩, ⟨by repeat (first | (with_reducible first | exact HB.out | apply below_alloc | apply pw_below_drewN | apply below_drew1 | refine below_set ?_ (IsS99.ge HI418.out) | refine below_set ?_ GE417.out) | exact HB.out)⟩⟩
  ·
   replace c7 := Bool.eq_false_iff.mpr c7
   subst c7
   (try rw [if_neg (show ¬ (false = true) by decide)] at H)
   replace H := Option.bind_eq_some_iff.mp H
   obtain ⟨t422, A90, H⟩ := H
   (try dsimp only at H)
   have A9 := Aside0.mk A90
   clear A90
   have H' := Aside0.mk H
   clear H
   obtain ⟨ASz10_0, cSz10_0, HGz10, hgz10, HSz10_0, HSqz10_0⟩ := HI418.out
   have hcz10_0 := cellS99_0 HGz10
   have hcz10_1 := cellS99_1 HGz10
   have hfz10_0 := blk_frozen HGz10 0
   have hfz10_1 := blk_frozen HGz10 1
   clear HGz10 hgz10
   go_wp2_with (first | (go_at_call 88; (with_reducible refine (impl_length_byte.calls _ _ l0 t422 _ ?_ ?_ A9.out).mono ?_); exact C_up (Kd.C_below HR0.out HB.out); exact HC0.out; rintro e w' ⟨rfl, ⟨nd, rfl⟩⟩))
   go_meet
   case rel => exact ⟨_, (decide (t419 > t422)), vl_, H', ⟨le_⟩, ⟨blk_up BK417.out⟩, ⟨by repeat (first | (with_reducible first | exact HI418.out | apply IsS99.alloc | apply IsS99.drewN | apply IsS99.drew | apply IsS99.set_1 | refine IsS99.far ?_ NB418_417.out _) | exact HI418.out)⟩, ⟨by repeat (first | (with_reducible first | exact HB.out | apply below_alloc | apply pw_below_drewN | apply below_drew1 | refine below_set ?_ (IsS99.ge HI418.out) | refine below_set ?_ GE417.out) | exact HB.out)⟩⟩
 case rest =>
  clear HC3
  obtain ⟨kq, x21_2, rfl, HA, HJ2, BK417, HI418, HB⟩ := hcut
  cases kq with
  | zero => exact absurd HA.out (by simp [impl_readOp.j0])
  | succ kj2 =>
    have H := HA.out
    clear HA
    simp only [impl_readOp.j0] at H
    by_cases c11 : x21_2 = true
    ·
     subst c11
     (try rw [if_pos rfl] at H)
     simp only [Option.some.injEq, Prod.mk.injEq] at H
     obtain ⟨rfl, rfl, rfl, rfl, rfl, rfl, rfl, rfl, rfl⟩ := H
     have hnb12 := NB417_418.out
     have hnc12 := NB418_417.out
     obtain ⟨_, _, _, _, _, _, _, _⟩ := blk_cells8 BK417.out
     obtain ⟨_, _, _, _, _, _, _, _⟩ := blk_frozen8 BK417.out
     go_wp2
     refine bodyPost_ret (results_ct rfl _ _ gb417 37 #[.int .i64 0, .string (⟨#[]⟩ : ByteArray), .string (⟨#[]⟩ : ByteArray), .slice none 0 0, .int .i64 0, .int .i64 0, .int .i64 0, .slice none 0 0] (0, 0) _ rfl (by (with_reducible repeat (first | refine blk_drewN ?_ _ | refine blk_drew ?_ | refine blk_alloc ?_ _)); refine blk_put (cs := #[.int .i64 0, .string (⟨#[]⟩ : ByteArray), .string (⟨#[]⟩ : ByteArray), .slice none 0 0, .int .i64 0, .int .i64 0, .int .i64 0, .slice none 0 0]) ?_ 7 _ rfl; (with_reducible repeat (first | refine blk_drewN ?_ _ | refine blk_drew ?_ | refine blk_alloc ?_ _)); refine blk_put (cs := #[.int .i64 0, .string (⟨#[]⟩ : ByteArray), .string (⟨#[]⟩ : ByteArray), .slice none 0 0, .int .i64 0, .int .i64 0, .int .i64 0, .slice none 0 0]) ?_ 6 _ rfl; (with_reducible repeat (first | refine blk_drewN ?_ _ | refine blk_drew ?_ | refine blk_alloc ?_ _)); refine blk_put (cs := #[.int .i64 0, .string (⟨#[]⟩ : ByteArray), .string (⟨#[]⟩ : ByteArray), .slice none 0 0, .int .i64 0, .int .i64 0, .int .i64 0, .slice none 0 0]) ?_ 5 _ rfl; (with_reducible repeat (first | refine blk_drewN ?_ _ | refine blk_drew ?_ | refine blk_alloc ?_ _)); refine blk_put (cs := #[.int .i64 0, .string (⟨#[]⟩ : ByteArray), .string (⟨#[]⟩ : ByteArray), .slice none 0 0, .int .i64 0, .int .i64 0, .int .i64 0, .slice none 0 0]) ?_ 4 _ rfl; (with_reducible repeat (first | refine blk_drewN ?_ _ | refine blk_drew ?_ | refine blk_alloc ?_ _)); refine blk_put (cs := #[.int .i64 0, .string (⟨#[]⟩ : ByteArray), .string (⟨#[]⟩ : ByteArray), .slice none 0 0, .int .i64 0, .int .i64 0, .int .i64 0, .slice none 0 0]) ?_ 3 _ rfl; (with_reducible repeat (first | refine blk_drewN ?_ _ | refine blk_drew ?_ | refine blk_alloc ?_ _)); refine blk_put (cs := #[.int .i64 0, .string (⟨#[]⟩ : ByteArray), .string (⟨#[]⟩ : ByteArray), .slice none 0 0, .int .i64 0, .int .i64 0, .int .i64 0, .slice none 0 0]) ?_ 2 _ rfl; (with_reducible repeat (first | refine blk_drewN ?_ _ | refine blk_drew ?_ | refine blk_alloc ?_ _)); refine blk_put (cs := #[.int .i64 0, .string (⟨#[]⟩ : ByteArray), .string (⟨#[]⟩ : ByteArray), .slice none 0 0, .int .i64 0, .int .i64 0, .int .i64 0, .slice none 0 0]) ?_ 1 _ rfl; (with_reducible repeat (first | refine blk_drewN ?_ _ | refine blk_drew ?_ | refine blk_alloc ?_ _)); refine blk_put (cs := #[.int .i64 0, .string (⟨#[]⟩ : ByteArray), .string (⟨#[]⟩ : ByteArray), .slice none 0 0, .int .i64 0, .int .i64 0, .int .i64 0, .slice none 0 0]) ?_ 0 _ rfl; (with_reducible repeat (first | refine blk_drewN ?_ _ | refine blk_drew ?_ | refine blk_alloc ?_ _)); exact BK417.out) Try.underlying37 rfl (by kernel_rfl)) rfl ?_
     exact ⟨_, _, ve_, by first | exact Kd.R_nil _ _ _ _ _ | exact Kd.N_nil _ _ _ _ _ | exact Kd.V_nil _ _ _ _ _ | exact Kd.Q_nil _ _ _ _ _ | exact Kd.S_nil _ _ _ _ _, by first | exact Kd.R_nil _ _ _ _ _ | exact Kd.N_nil _ _ _ _ _ | exact Kd.V_nil _ _ _ _ _ | exact Kd.Q_nil _ _ _ _ _ | exact Kd.S_nil _ _ _ _ _, by repeat (first | (with_reducible first | exact HB.out | apply below_alloc | apply pw_below_drewN | apply below_drew1 | refine below_set ?_ (IsS99.ge HI418.out) | refine below_set ?_ GE417.out) | exact HB.out)⟩
    ·
     replace c11 := Bool.eq_false_iff.mpr c11
     subst c11
     (try rw [if_neg (show ¬ (false = true) by decide)] at H)
     obtain ⟨ji14, hji14⟩ : ∃ j_ : Int, (mx 2 t419) = j_ := ⟨_, rfl⟩
     replace H : (if 2 ≤ (ji14) then (if (ji14) ≤ (l0.length : Int) then ((impl_taker_one.f ((l0.take ((ji14) : Int).toNat).drop 2) t421).bind fun bt424 => ((impl_taker_one.f bt424.2.1 bt424.2.2).bind fun bt428 => ((impl_taker_take.f bt428.2.1 bt428.2.2 bt428.1).bind fun bt431 => ((impl_taker_one.f bt431.2.1 bt431.2.2).bind fun bt437 => ((impl_taker_take.f bt437.2.1 bt437.2.2 bt437.1).bind fun bt440 => ((impl_taker_one.f bt440.2.1 bt440.2.2).bind fun bt446 => (impl_readOp.l0 kj2 l0 t419 bt446.1 0 bt446.2.1 bt446.2.2 bt424.1 (strOfNums bt431.1) (strOfNums bt440.1) ([] : List Int) 0 0 0))))))) else (none)) else (none)) = some (r1, r2, r3, r4, r5, r6, r7, r8, r9) := by first | (rw [hji14] at H; exact H) | (simp only [hji14] at H ⊢; exact H)
     have hji14_ : (if 2 < t419 then t419 else 2) = ji14 := hji14
     by_cases c15 : 2 ≤ (ji14)
     ·
      rw [if_pos c15] at H
      have c15b0 := eq_true c15
      have c15b1 : decide (2 ≤ (ji14)) = true := decide_eq_true c15
      clear c15
      by_cases c16 : (ji14) ≤ (l0.length : Int)
      case neg => rw [if_neg c16] at H; exact absurd H (by simp)
      rw [if_pos c16] at H
      have c16b0 := eq_true c16
      have c16b1 : decide ((ji14) ≤ (l0.length : Int)) = true := decide_eq_true c16
      clear c16
      replace H := Option.bind_eq_some_iff.mp H
      obtain ⟨⟨t424, t425, t426⟩, A170, H⟩ := H
      (try dsimp only at H)
      have A17 := Aside0.mk A170
      clear A170
      replace H := Option.bind_eq_some_iff.mp H
      obtain ⟨⟨t428, t429, t430⟩, A180, H⟩ := H
      (try dsimp only at H)
      have A18 := Aside0.mk A180
      clear A180
      replace H := Option.bind_eq_some_iff.mp H
      obtain ⟨⟨t431, t435, t436⟩, A190, H⟩ := H
      (try dsimp only at H)
      have A19 := Aside0.mk A190
      clear A190
      replace H := Option.bind_eq_some_iff.mp H
      obtain ⟨⟨t437, t438, t439⟩, A200, H⟩ := H
      (try dsimp only at H)
      have A20 := Aside0.mk A200
      clear A200
      replace H := Option.bind_eq_some_iff.mp H
      obtain ⟨⟨t440, t444, t445⟩, A210, H⟩ := H
      (try dsimp only at H)
      have A21 := Aside0.mk A210
      clear A210
      replace H := Option.bind_eq_some_iff.mp H
      obtain ⟨⟨t446, t447, t448⟩, A220, H⟩ := H
      (try dsimp only at H)
      have A22 := Aside0.mk A220
      clear A220
      have H' := Aside0.mk H
      clear H
      obtain ⟨i023, hi023, _, hsz23, _⟩ := info_parts info5
      obtain ⟨A23, hcut23, hA23, hC23⟩ := print_mid_of (P := Try.prog) (Value.int .u8) 0 24 5 .i64 .i64 Try.underlying24 hi023 hsz23 A0 c0 l0 2 (ji14) (by omega) (by first | omega | exact od_) (od_) HC0.out
      have HR423 := Aside0.mk (Kd.C_of_reads (h1 := fun _ => rfl) (hA23 _ (Kd.reads_of_C HR0.out)))
      have HC423 := Aside0.mk hC23
      clear hA23 hC23 hi023 hsz23
      obtain ⟨ASz24_0, cSz24_0, HGz24, hgz24, HSz24_0, HSqz24_0⟩ := HI418.out
      have hcz24_0 := cellS99_0 HGz24
      have hcz24_1 := cellS99_1 HGz24
      have hfz24_0 := blk_frozen HGz24 0
      have hfz24_1 := blk_frozen HGz24 1
      clear HGz24 hgz24
      have n_ := Aside0.mk (show IsS99 w (wc.setCell ⟨gb418, 0, none⟩ (.slice A23 ((ji14).toNat - 2) (c0 - 2))) gb418 ((l0.take ((ji14) : Int).toNat).drop 2) t421 from IsS99.sl_0 (by repeat (first | (with_reducible first | exact HI418.out | apply IsS99.alloc | apply IsS99.drewN | apply IsS99.drew | apply IsS99.set_1 | refine IsS99.far ?_ NB418_417.out _) | exact HI418.out)) HR423.out (by exact HC423.out) (show ((l0.take ((ji14) : Int).toNat).drop 2).length = ((ji14).toNat - 2) from (by rw [List.length_drop, List.length_take]; have h_ : ((ji14) : Int) ≤ (l0.length : Int) := od_; omega)))
      clear HI418
      have HI418 := n_
      clear n_
      go_wp2_with (first | ((with_reducible refine gate_callee (f := 89) rfl ?_); refine goesY_ (some 31) Try.func89 #[.pointer (some ⟨gb418, 0, none⟩)] rfl ?_; (with_reducible refine (impl_taker_one.calls gb418 ((l0.take ((ji14) : Int).toNat).drop 2) t421 t424 t425 t426 w _ ?side1 ?side2 A17.out).mono ?_); (case side1 => repeat (first | (with_reducible first | exact HI418.out | apply IsS99.alloc | apply IsS99.drewN | apply IsS99.drew | apply IsS99.set_1 | refine IsS99.far ?_ NB418_417.out _) | exact HI418.out)); (case side2 => repeat (first | (with_reducible first | exact HB.out | apply below_alloc | apply pw_below_drewN | apply below_drew1 | refine below_set ?_ (IsS99.ge HI418.out) | refine below_set ?_ GE417.out) | exact HB.out)); rintro e w25 ⟨rfl, hi, hb, hk⟩; refine ⟨_, rfl, ?_⟩; replace BK417 := Aside0.mk (KeepBut.blk hk (g' := gb417) (o := .cells #[.int .i64 0, .string (⟨#[]⟩ : ByteArray), .string (⟨#[]⟩ : ByteArray), .slice none 0 0, .int .i64 0, .int .i64 0, .int .i64 0, .slice none 0 0] 37 (0, 0)) (by (with_reducible repeat (first | refine blk_drewN ?_ _ | refine blk_drew ?_ | refine blk_alloc ?_ _)); refine blk_far ?_ NB417_418.out _; (with_reducible repeat (first | refine blk_drewN ?_ _ | refine blk_drew ?_ | refine blk_alloc ?_ _)); exact BK417.out) NB417_418.out (by simp)); replace HB := Aside0.mk (hb); replace HI418 := Aside0.mk (hi); (try clear hb)) | ((with_reducible refine gate_dst (N := 6) rfl ?_); refine box_event ?hg (N := 6) ?hd (cs := #[.int .i64 0, .string (⟨#[]⟩ : ByteArray), .string (⟨#[]⟩ : ByteArray), .slice none 0 0, .int .i64 0, .int .i64 0, .int .i64 0, .slice none 0 0]) (t := 37) ?hr ?_; (case hd => rfl); (case hg => rfl); (case hr => first | (go_simp; done) | (go_simp; rfl)); intro gb427 hg w26 hbox hb; have n0_ := Aside0.mk (blk_below (g := gb417) (o := .cells #[.int .i64 0, .string (⟨#[]⟩ : ByteArray), .string (⟨#[]⟩ : ByteArray), .slice none 0 0, .int .i64 0, .int .i64 0, .int .i64 0, .slice none 0 0] 37 (0, 0)) (blk_up BK417.out) hb); have n1_ := Aside0.mk (IsS99.below (by repeat (first | (with_reducible first | exact HI418.out | apply IsS99.alloc | apply IsS99.drewN | apply IsS99.drew | apply IsS99.set_1 | refine IsS99.far ?_ NB418_417.out _) | exact HI418.out)) hb); have n2_ := Aside0.mk (below_step (by repeat (first | (with_reducible first | exact HB.out | apply below_alloc | apply pw_below_drewN | apply below_drew1 | refine below_set ?_ (IsS99.ge HI418.out) | refine below_set ?_ GE417.out) | exact HB.out)) hb); have n3_ := Aside0.mk (hbox); have n4_ := Aside0.mk ((by rw [hg]; exact (below_size (by repeat (first | (with_reducible first | exact HB.out | apply below_alloc | apply pw_below_drewN | apply below_drew1 | refine below_set ?_ (IsS99.ge HI418.out) | refine below_set ?_ GE417.out) | exact HB.out))) : w.heap.size ≤ gb427)); have n5_ := Aside0.mk ((by rw [hg]; exact (below_size (by repeat (first | (with_reducible first | exact HB.out | apply below_alloc | apply pw_below_drewN | apply below_drew1 | refine below_set ?_ (IsS99.ge HI418.out) | refine below_set ?_ GE417.out) | exact HB.out))) : w.heap.size ≤ gb427)); have n6_ := Aside0.mk ((by rw [hg]; exact Nat.ne_of_lt (blk_lt (g := gb417) (o := .cells #[.int .i64 0, .string (⟨#[]⟩ : ByteArray), .string (⟨#[]⟩ : ByteArray), .slice none 0 0, .int .i64 0, .int .i64 0, .int .i64 0, .slice none 0 0] 37 (0, 0)) (blk_up BK417.out)) : gb417 ≠ gb427)); have n7_ := Aside0.mk ((by rw [hg]; exact Nat.ne_of_gt (blk_lt (g := gb417) (o := .cells #[.int .i64 0, .string (⟨#[]⟩ : ByteArray), .string (⟨#[]⟩ : ByteArray), .slice none 0 0, .int .i64 0, .int .i64 0, .int .i64 0, .slice none 0 0] 37 (0, 0)) (blk_up BK417.out)) : gb427 ≠ gb417)); have n8_ := Aside0.mk ((by rw [hg]; exact Nat.ne_of_lt (IsS99.lt (show IsS99 w _ gb418 t425 t426 from by repeat (first | (with_reducible first | exact HI418.out | apply IsS99.alloc | apply IsS99.drewN | apply IsS99.drew | apply IsS99.set_1 | refine IsS99.far ?_ NB418_417.out _) | exact HI418.out))) : gb418 ≠ gb427)); have n9_ := Aside0.mk ((by rw [hg]; exact Nat.ne_of_gt (IsS99.lt (show IsS99 w _ gb418 t425 t426 from by repeat (first | (with_reducible first | exact HI418.out | apply IsS99.alloc | apply IsS99.drewN | apply IsS99.drew | apply IsS99.set_1 | refine IsS99.far ?_ NB418_417.out _) | exact HI418.out))) : gb427 ≠ gb418)); clear BK417; clear HI418; clear HB; have BK417 := n0_; have HI418 := n1_; have HB := n2_; have BK427 := n3_; have GW427 := n4_; have GE427 := n5_; have NB417_427 := n6_; have NB427_417 := n7_; have NB418_427 := n8_; have NB427_418 := n9_; clear n0_ n1_ n2_ n3_ n4_ n5_ n6_ n7_ n8_ n9_; clear hb hbox hg; have hnb27 := NB427_417.out; have hnc27 := NB417_427.out; have hnb28 := NB427_418.out; have hnc28 := NB418_427.out; obtain ⟨hcz29_0, hcz29_1, hcz29_2, hcz29_3, hcz29_4, hcz29_5, hcz29_6, hcz29_7⟩ := blk_cells8 BK427.out; obtain ⟨hfz29_0, hfz29_1, hfz29_2, hfz29_3, hfz29_4, hfz29_5, hfz29_6, hfz29_7⟩ := blk_frozen8 BK427.out) | ((with_reducible refine gate_callee (f := 89) rfl ?_); refine goesY_ (some 35) Try.func89 #[.pointer (some ⟨gb418, 0, none⟩)] rfl ?_; (with_reducible refine (impl_taker_one.calls gb418 t425 t426 t428 t429 t430 w _ ?side1 ?side2 A18.out).mono ?_); (case side1 => repeat (first | (with_reducible first | exact HI418.out | apply IsS99.alloc | apply IsS99.drewN | apply IsS99.drew | apply IsS99.set_1 | refine IsS99.far ?_ NB418_417.out _ | refine IsS99.far ?_ NB418_427.out _) | exact HI418.out)); (case side2 => repeat (first | (with_reducible first | exact HB.out | apply below_alloc | apply pw_below_drewN | apply below_drew1 | refine below_set ?_ (IsS99.ge HI418.out) | refine below_set ?_ GE417.out | refine below_set ?_ GE427.out) | exact HB.out)); rintro e w30 ⟨rfl, hi, hb, hk⟩; refine ⟨_, rfl, ?_⟩; replace BK417 := Aside0.mk (KeepBut.blk hk (g' := gb417) (o := .cells #[.int .i64 0, .string (⟨#[]⟩ : ByteArray), .string (⟨#[]⟩ : ByteArray), .slice none 0 0, .int .i64 0, .int .i64 0, .int .i64 0, .slice none 0 0] 37 (0, 0)) (by (with_reducible repeat (first | refine blk_drewN ?_ _ | refine blk_drew ?_ | refine blk_alloc ?_ _)); refine blk_far ?_ NB417_427.out _; (with_reducible repeat (first | refine blk_drewN ?_ _ | refine blk_drew ?_ | refine blk_alloc ?_ _)); refine blk_far ?_ NB417_427.out _; (with_reducible repeat (first | refine blk_drewN ?_ _ | refine blk_drew ?_ | refine blk_alloc ?_ _)); refine blk_far ?_ NB417_427.out _; (with_reducible repeat (first | refine blk_drewN ?_ _ | refine blk_drew ?_ | refine blk_alloc ?_ _)); refine blk_far ?_ NB417_427.out _; (with_reducible repeat (first | refine blk_drewN ?_ _ | refine blk_drew ?_ | refine blk_alloc ?_ _)); refine blk_far ?_ NB417_427.out _; (with_reducible repeat (first | refine blk_drewN ?_ _ | refine blk_drew ?_ | refine blk_alloc ?_ _)); refine blk_far ?_ NB417_427.out _; (with_reducible repeat (first | refine blk_drewN ?_ _ | refine blk_drew ?_ | refine blk_alloc ?_ _)); refine blk_far ?_ NB417_427.out _; (with_reducible repeat (first | refine blk_drewN ?_ _ | refine blk_drew ?_ | refine blk_alloc ?_ _)); refine blk_far ?_ NB417_427.out _; (with_reducible repeat (first | refine blk_drewN ?_ _ | refine blk_drew ?_ | refine blk_alloc ?_ _)); exact BK417.out) NB417_418.out (by simp)); replace BK427 := Aside0.mk (KeepBut.blk hk (g' := gb427) (o := .cells #[.int .i64 t424, .string (⟨#[]⟩ : ByteArray), .string (⟨#[]⟩ : ByteArray), .slice none 0 0, .int .i64 0, .int .i64 0, .int .i64 0, .slice none 0 0] 37 (0, 0)) (by (with_reducible repeat (first | refine blk_drewN ?_ _ | refine blk_drew ?_ | refine blk_alloc ?_ _)); refine blk_put (cs := #[.int .i64 t424, .string (⟨#[]⟩ : ByteArray), .string (⟨#[]⟩ : ByteArray), .slice none 0 0, .int .i64 0, .int .i64 0, .int .i64 0, .slice none 0 0]) ?_ 7 _ rfl; (with_reducible repeat (first | refine blk_drewN ?_ _ | refine blk_drew ?_ | refine blk_alloc ?_ _)); refine blk_put (cs := #[.int .i64 t424, .string (⟨#[]⟩ : ByteArray), .string (⟨#[]⟩ : ByteArray), .slice none 0 0, .int .i64 0, .int .i64 0, .int .i64 0, .slice none 0 0]) ?_ 6 _ rfl; (with_reducible repeat (first | refine blk_drewN ?_ _ | refine blk_drew ?_ | refine blk_alloc ?_ _)); refine blk_put (cs := #[.int .i64 t424, .string (⟨#[]⟩ : ByteArray), .string (⟨#[]⟩ : ByteArray), .slice none 0 0, .int .i64 0, .int .i64 0, .int .i64 0, .slice none 0 0]) ?_ 5 _ rfl; (with_reducible repeat (first | refine blk_drewN ?_ _ | refine blk_drew ?_ | refine blk_alloc ?_ _)); refine blk_put (cs := #[.int .i64 t424, .string (⟨#[]⟩ : ByteArray), .string (⟨#[]⟩ : ByteArray), .slice none 0 0, .int .i64 0, .int .i64 0, .int .i64 0, .slice none 0 0]) ?_ 4 _ rfl; (with_reducible repeat (first | refine blk_drewN ?_ _ | refine blk_drew ?_ | refine blk_alloc ?_ _)); refine blk_put (cs := #[.int .i64 t424, .string (⟨#[]⟩ : ByteArray), .string (⟨#[]⟩ : ByteArray), .slice none 0 0, .int .i64 0, .int .i64 0, .int .i64 0, .slice none 0 0]) ?_ 3 _ rfl; (with_reducible repeat (first | refine blk_drewN ?_ _ | refine blk_drew ?_ | refine blk_alloc ?_ _)); refine blk_put (cs := #[.int .i64 t424, .string (⟨#[]⟩ : ByteArray), .string (⟨#[]⟩ : ByteArray), .slice none 0 0, .int .i64 0, .int .i64 0, .int .i64 0, .slice none 0 0]) ?_ 2 _ rfl; (with_reducible repeat (first | refine blk_drewN ?_ _ | refine blk_drew ?_ | refine blk_alloc ?_ _)); refine blk_put (cs := #[.int .i64 t424, .string (⟨#[]⟩ : ByteArray), .string (⟨#[]⟩ : ByteArray), .slice none 0 0, .int .i64 0, .int .i64 0, .int .i64 0, .slice none 0 0]) ?_ 1 _ rfl; (with_reducible repeat (first | refine blk_drewN ?_ _ | refine blk_drew ?_ | refine blk_alloc ?_ _)); refine blk_put (cs := #[.int .i64 0, .string (⟨#[]⟩ : ByteArray), .string (⟨#[]⟩ : ByteArray), .slice none 0 0, .int .i64 0, .int .i64 0, .int .i64 0, .slice none 0 0]) ?_ 0 _ rfl; (with_reducible repeat (first | refine blk_drewN ?_ _ | refine blk_drew ?_ | refine blk_alloc ?_ _)); exact BK427.out) NB427_418.out (by simp)); replace HB := Aside0.mk (hb); replace HI418 := Aside0.mk (hi); (try clear hb)) | ((with_reducible refine gate_callee (f := 90) rfl ?_); refine goesY_ (some 36) Try.func90 #[.pointer (some ⟨gb418, 0, none⟩), .int .i64 t428] rfl ?_; (with_reducible refine (impl_taker_take.calls gb418 t429 t430 t428 t431 t435 t436 w _ ?side1 ?side2 A19.out).mono ?_); (case side1 => repeat (first | (with_reducible first | exact HI418.out | apply IsS99.alloc | apply IsS99.drewN | apply IsS99.drew | apply IsS99.set_1 | refine IsS99.far ?_ NB418_417.out _ | refine IsS99.far ?_ NB418_427.out _) | exact HI418.out)); (case side2 => repeat (first | (with_reducible first | exact HB.out | apply below_alloc | apply pw_below_drewN | apply below_drew1 | refine below_set ?_ (IsS99.ge HI418.out) | refine below_set ?_ GE417.out | refine below_set ?_ GE427.out) | exact HB.out)); rintro e w31 ⟨vs_434, rfl, ho0, hi, hb, hk⟩; refine ⟨_, rfl, ?_⟩; obtain ⟨As434, cs434, es_, hC434, hc434⟩ := ho0; subst es_; replace BK417 := Aside0.mk (KeepBut.blk hk (g' := gb417) (o := .cells #[.int .i64 0, .string (⟨#[]⟩ : ByteArray), .string (⟨#[]⟩ : ByteArray), .slice none 0 0, .int .i64 0, .int .i64 0, .int .i64 0, .slice none 0 0] 37 (0, 0)) (blk_up BK417.out) NB417_418.out (by simp)); replace BK427 := Aside0.mk (KeepBut.blk hk (g' := gb427) (o := .cells #[.int .i64 t424, .string (⟨#[]⟩ : ByteArray), .string (⟨#[]⟩ : ByteArray), .slice none 0 0, .int .i64 0, .int .i64 0, .int .i64 0, .slice none 0 0] 37 (0, 0)) (blk_up BK427.out) NB427_418.out (by simp)); have HRs434 := Aside0.mk (hC434); have HCs434 := Aside0.mk (hc434); replace HB := Aside0.mk (hb); replace HI418 := Aside0.mk (hi); (try clear hb); (try clear ho0); have hcv32 := Kd.C_string (P := Try.prog) (A := As434) (c := cs434) Try.underlying24 Try.underlying5 Try.underlying9 (by repeat (first | (with_reducible exact HRs434.out) | (with_reducible refine Kd.C_alloc ?_ _) | (with_reducible refine Kd.C_drewN ?_ _) | (with_reducible refine Kd.C_drew ?_) | exact HRs434.out)); have hcq33 := fun (nq_ : Nat) => Kd.C_string (P := Try.prog) (A := As434) (c := cs434) Try.underlying24 Try.underlying5 Try.underlying9 (Kd.C_drewN (by repeat (first | (with_reducible exact HRs434.out) | (with_reducible refine Kd.C_alloc ?_ _) | (with_reducible refine Kd.C_drewN ?_ _) | (with_reducible refine Kd.C_drew ?_) | exact HRs434.out)) nq_); obtain ⟨hcz34_0, hcz34_1, hcz34_2, hcz34_3, hcz34_4, hcz34_5, hcz34_6, hcz34_7⟩ := blk_cells8 BK427.out; obtain ⟨hfz34_0, hfz34_1, hfz34_2, hfz34_3, hfz34_4, hfz34_5, hfz34_6, hfz34_7⟩ := blk_frozen8 BK427.out) | ((with_reducible refine gate_callee (f := 89) rfl ?_); refine goesY_ (some 41) Try.func89 #[.pointer (some ⟨gb418, 0, none⟩)] rfl ?_; (with_reducible refine (impl_taker_one.calls gb418 t435 t436 t437 t438 t439 w _ ?side1 ?side2 A20.out).mono ?_); (case side1 => repeat (first | (with_reducible first | exact HI418.out | apply IsS99.alloc | apply IsS99.drewN | apply IsS99.drew | apply IsS99.set_1 | refine IsS99.far ?_ NB418_417.out _ | refine IsS99.far ?_ NB418_427.out _) | exact HI418.out)); (case side2 => repeat (first | (with_reducible first | exact HB.out | apply below_alloc | apply pw_below_drewN | apply below_drew1 | refine below_set ?_ (IsS99.ge HI418.out) | refine below_set ?_ GE417.out | refine below_set ?_ GE427.out) | exact HB.out)); rintro e w35 ⟨rfl, hi, hb, hk⟩; refine ⟨_, rfl, ?_⟩; replace BK417 := Aside0.mk (KeepBut.blk hk (g' := gb417) (o := .cells #[.int .i64 0, .string (⟨#[]⟩ : ByteArray), .string (⟨#[]⟩ : ByteArray), .slice none 0 0, .int .i64 0, .int .i64 0, .int .i64 0, .slice none 0 0] 37 (0, 0)) (by (with_reducible repeat (first | refine blk_drewN ?_ _ | refine blk_drew ?_ | refine blk_alloc ?_ _)); refine blk_far ?_ NB417_427.out _; (with_reducible repeat (first | refine blk_drewN ?_ _ | refine blk_drew ?_ | refine blk_alloc ?_ _)); exact BK417.out) NB417_418.out (by simp)); replace BK427 := Aside0.mk (KeepBut.blk hk (g' := gb427) (o := .cells #[.int .i64 t424, .string (strOfNums t431), .string (⟨#[]⟩ : ByteArray), .slice none 0 0, .int .i64 0, .int .i64 0, .int .i64 0, .slice none 0 0] 37 (0, 0)) (by (with_reducible repeat (first | refine blk_drewN ?_ _ | refine blk_drew ?_ | refine blk_alloc ?_ _)); refine blk_put (cs := #[.int .i64 t424, .string (⟨#[]⟩ : ByteArray), .string (⟨#[]⟩ : ByteArray), .slice none 0 0, .int .i64 0, .int .i64 0, .int .i64 0, .slice none 0 0]) ?_ 1 _ rfl; (with_reducible repeat (first | refine blk_drewN ?_ _ | refine blk_drew ?_ | refine blk_alloc ?_ _)); exact BK427.out) NB427_418.out (by simp)); replace HB := Aside0.mk (hb); replace HI418 := Aside0.mk (hi); (try clear hb)) | ((with_reducible refine gate_callee (f := 90) rfl ?_); refine goesY_ (some 42) Try.func90 #[.pointer (some ⟨gb418, 0, none⟩), .int .i64 t437] rfl ?_; (with_reducible refine (impl_taker_take.calls gb418 t438 t439 t437 t440 t444 t445 w _ ?side1 ?side2 A21.out).mono ?_); (case side1 => repeat (first | (with_reducible first | exact HI418.out | apply IsS99.alloc | apply IsS99.drewN | apply IsS99.drew | apply IsS99.set_1 | refine IsS99.far ?_ NB418_417.out _ | refine IsS99.far ?_ NB418_427.out _) | exact HI418.out)); (case side2 => repeat (first | (with_reducible first | exact HB.out | apply below_alloc | apply pw_below_drewN | apply below_drew1 | refine below_set ?_ (IsS99.ge HI418.out) | refine below_set ?_ GE417.out | refine below_set ?_ GE427.out) | exact HB.out)); rintro e w36 ⟨vs_443, rfl, ho0, hi, hb, hk⟩; refine ⟨_, rfl, ?_⟩; obtain ⟨As443, cs443, es_, hC443, hc443⟩ := ho0; subst es_; replace BK417 := Aside0.mk (KeepBut.blk hk (g' := gb417) (o := .cells #[.int .i64 0, .string (⟨#[]⟩ : ByteArray), .string (⟨#[]⟩ : ByteArray), .slice none 0 0, .int .i64 0, .int .i64 0, .int .i64 0, .slice none 0 0] 37 (0, 0)) (blk_up BK417.out) NB417_418.out (by simp)); replace BK427 := Aside0.mk (KeepBut.blk hk (g' := gb427) (o := .cells #[.int .i64 t424, .string (strOfNums t431), .string (⟨#[]⟩ : ByteArray), .slice none 0 0, .int .i64 0, .int .i64 0, .int .i64 0, .slice none 0 0] 37 (0, 0)) (blk_up BK427.out) NB427_418.out (by simp)); have HRs443 := Aside0.mk (hC443); have HCs443 := Aside0.mk (hc443); replace HB := Aside0.mk (hb); replace HI418 := Aside0.mk (hi); (try clear hb); (try clear ho0); have hcv37 := Kd.C_string (P := Try.prog) (A := As443) (c := cs443) Try.underlying24 Try.underlying5 Try.underlying9 (by repeat (first | (with_reducible exact HRs443.out) | (with_reducible refine Kd.C_alloc ?_ _) | (with_reducible refine Kd.C_drewN ?_ _) | (with_reducible refine Kd.C_drew ?_) | exact HRs443.out)); have hcq38 := fun (nq_ : Nat) => Kd.C_string (P := Try.prog) (A := As443) (c := cs443) Try.underlying24 Try.underlying5 Try.underlying9 (Kd.C_drewN (by repeat (first | (with_reducible exact HRs443.out) | (with_reducible refine Kd.C_alloc ?_ _) | (with_reducible refine Kd.C_drewN ?_ _) | (with_reducible refine Kd.C_drew ?_) | exact HRs443.out)) nq_); obtain ⟨hcz39_0, hcz39_1, hcz39_2, hcz39_3, hcz39_4, hcz39_5, hcz39_6, hcz39_7⟩ := blk_cells8 BK427.out; obtain ⟨hfz39_0, hfz39_1, hfz39_2, hfz39_3, hfz39_4, hfz39_5, hfz39_6, hfz39_7⟩ := blk_frozen8 BK427.out) | ((with_reducible refine gate_callee (f := 89) rfl ?_); refine goesY_ (some 46) Try.func89 #[.pointer (some ⟨gb418, 0, none⟩)] rfl ?_; (with_reducible refine (impl_taker_one.calls gb418 t444 t445 t446 t447 t448 w _ ?side1 ?side2 A22.out).mono ?_); (case side1 => repeat (first | (with_reducible first | exact HI418.out | apply IsS99.alloc | apply IsS99.drewN | apply IsS99.drew | apply IsS99.set_1 | refine IsS99.far ?_ NB418_417.out _ | refine IsS99.far ?_ NB418_427.out _) | exact HI418.out)); (case side2 => repeat (first | (with_reducible first | exact HB.out | apply below_alloc | apply pw_below_drewN | apply below_drew1 | refine below_set ?_ (IsS99.ge HI418.out) | refine below_set ?_ GE417.out | refine below_set ?_ GE427.out) | exact HB.out)); rintro e w40 ⟨rfl, hi, hb, hk⟩; refine ⟨_, rfl, ?_⟩; replace BK417 := Aside0.mk (KeepBut.blk hk (g' := gb417) (o := .cells #[.int .i64 0, .string (⟨#[]⟩ : ByteArray), .string (⟨#[]⟩ : ByteArray), .slice none 0 0, .int .i64 0, .int .i64 0, .int .i64 0, .slice none 0 0] 37 (0, 0)) (by (with_reducible repeat (first | refine blk_drewN ?_ _ | refine blk_drew ?_ | refine blk_alloc ?_ _)); refine blk_far ?_ NB417_427.out _; (with_reducible repeat (first | refine blk_drewN ?_ _ | refine blk_drew ?_ | refine blk_alloc ?_ _)); exact BK417.out) NB417_418.out (by simp)); replace BK427 := Aside0.mk (KeepBut.blk hk (g' := gb427) (o := .cells #[.int .i64 t424, .string (strOfNums t431), .string (strOfNums t440), .slice none 0 0, .int .i64 0, .int .i64 0, .int .i64 0, .slice none 0 0] 37 (0, 0)) (by (with_reducible repeat (first | refine blk_drewN ?_ _ | refine blk_drew ?_ | refine blk_alloc ?_ _)); refine blk_put (cs := #[.int .i64 t424, .string (strOfNums t431), .string (⟨#[]⟩ : ByteArray), .slice none 0 0, .int .i64 0, .int .i64 0, .int .i64 0, .slice none 0 0]) ?_ 2 _ rfl; (with_reducible repeat (first | refine blk_drewN ?_ _ | refine blk_drew ?_ | refine blk_alloc ?_ _)); exact BK427.out) NB427_418.out (by simp)); replace HB := Aside0.mk (hb); replace HI418 := Aside0.mk (hi); (try clear hb)))
      go_loopg [47] kj2 (fun kq v47 w' => ∃ (x47_2 : Int) (x419000_2 : List Int) (x419001_2 : Bool) (x428003_2 : List Int) (u428003 : Value), v47 = .int .i64 x47_2 ∧ Aside0 (impl_readOp.l0 kq l0 t419 t446 x47_2 x419000_2 x419001_2 t424 (strOfNums t431) (strOfNums t440) x428003_2 0 0 0 = some (r1, r2, r3, r4, r5, r6, r7, r8, r9)) ∧ Aside0 (kq ≤ kj2) ∧ Aside0 (Kd.R (Kd.int .i64) 2 w' w.heap.size (fun _ => True) u428003 x428003_2) ∧ Aside0 (w'.heap[gb417]? = some (.cells #[.int .i64 0, .string (⟨#[]⟩ : ByteArray), .string (⟨#[]⟩ : ByteArray), (.slice none 0 0), .int .i64 0, .int .i64 0, .int .i64 0, (.slice none 0 0)] 37 (0, 0))) ∧ Aside0 (w'.heap[gb427]? = some (.cells #[.int .i64 t424, .string (strOfNums t431), .string (strOfNums t440), u428003, .int .i64 0, .int .i64 0, .int .i64 0, (.slice none 0 0)] 37 (0, 0))) ∧ Aside0 (IsS99 w w' gb418 x419000_2 x419001_2) ∧ Aside0 (Below w.heap.size w w'))
      case atStart => exact ⟨(0), (t447), (t448), (([] : List Int)), (.slice none 0 0), vl_, H', ⟨Nat.le_refl _⟩, ⟨by first | exact Kd.R_nil _ _ _ _ _ | exact Kd.N_nil _ _ _ _ _ | exact Kd.V_nil _ _ _ _ _ | exact Kd.Q_nil _ _ _ _ _ | exact Kd.S_nil _ _ _ _ _⟩, ⟨blk_up BK417.out⟩, ⟨blk_up BK427.out⟩, ⟨by repeat (first | (with_reducible first | exact HI418.out | apply IsS99.alloc | apply IsS99.drewN | apply IsS99.drew | apply IsS99.set_1 | refine IsS99.far ?_ NB418_417.out _ | refine IsS99.far ?_ NB418_427.out _) | exact HI418.out)⟩, ⟨by repeat (first | (with_reducible first | exact HB.out | apply below_alloc | apply pw_below_drewN | apply below_drew1 | refine below_set ?_ (IsS99.ge HI418.out) | refine below_set ?_ GE417.out | refine below_set ?_ GE427.out) | exact HB.out)⟩⟩
      case round =>
       clear H'
       try clear q3
       try clear hcv3
       try clear c11
       try clear c15
       try clear c15b0
       try clear c15b1
       try clear c16
       try clear c16b0
       try clear c16b1
       try clear hcv32
       try clear q33
       try clear hcv37
       try clear q38
       try clear hcz24_0
       try clear hcz24_1
       try clear hcz29_0
       try clear hcz29_1
       try clear hcz29_2
       try clear hcz29_3
       try clear hcz29_4
       try clear hcz29_5
       try clear hcz29_6
       try clear hcz29_7
       try clear hcz34_0
       try clear hcz34_1
       try clear hcz34_2
       try clear hcz34_3
       try clear hcz34_4
       try clear hcz34_5
       try clear hcz34_6
       try clear hcz34_7
       try clear hcz39_0
       try clear hcz39_1
       try clear hcz39_2
       try clear hcz39_3
       try clear hcz39_4
       try clear hcz39_5
       try clear hcz39_6
       try clear hcz39_7
       try clear hfz24_0
       try clear hfz24_1
       try clear hfz29_0
       try clear hfz29_1
       try clear hfz29_2
       try clear hfz29_3
       try clear hfz29_4
       try clear hfz29_5
       try clear hfz29_6
       try clear hfz29_7
       try clear hfz34_0
       try clear hfz34_1
       try clear hfz34_2
       try clear hfz34_3
       try clear hfz34_4
       try clear hfz34_5
       try clear hfz34_6
       try clear hfz34_7
       try clear hfz39_0
       try clear hfz39_1
       try clear hfz39_2
       try clear hfz39_3
       try clear hfz39_4
       try clear hfz39_5
       try clear hfz39_6
       try clear hfz39_7
       obtain ⟨x47_2, x419000_2, x419001_2, x428003_2, u428003, rfl, HA, HK2, HO_428003, BK417, BK427, HI418, HB⟩ := hrel
       cases gk with
       | zero => exact absurd HA.out (by simp [impl_readOp.l0])
       | succ k2 =>
         have H := HA.out
         clear HA
         simp only [impl_readOp.l0] at H
         by_cases c41 : x47_2 < t446
         ·
          rw [if_pos c41] at H
          have c41b0 : decide (x47_2 < t446) = true := decide_eq_true c41
          clear c41
          replace H := Option.bind_eq_some_iff.mp H
          obtain ⟨⟨t449, t450, t451⟩, A420, H⟩ := H
          (try dsimp only at H)
          have A42 := Aside0.mk A420
          clear A420
          by_cases c43 : x428003_2.length < 17592186044416
          case neg => rw [if_neg c43] at H; exact absurd H (by simp)
          rw [if_pos c43] at H
          have LMc43 := Aside0.mk c43
          clear c43
          obtain ⟨y452, hy452⟩ : ∃ y_ : List Int, y_ = (x428003_2 ++ [t449]) := ⟨_, rfl⟩
          replace H : (impl_readOp.l0 k2 l0 t419 t446 (wrap64 (x47_2 + 1)) t450 t451 t424 (strOfNums t431) (strOfNums t440) y452 0 0 0) = some (r1, r2, r3, r4, r5, r6, r7, r8, r9) := by first | (rw [hy452]; with_reducible exact H) | (have H2_ := (Option.bind_some _ _).symm.trans H; rw [hy452]; with_reducible exact H2_) | (have H2_ := (Option.bind_some _ _).symm.trans H; with_reducible exact H2_) | with_reducible exact H | (rw [hy452]; exact H) | exact H
          have Ny452 := Aside0.mk hy452
          clear hy452
          have H' := Aside0.mk H
          clear H
          try go_wp2
          replace HO_428003 := Aside0.mk (Kd.R_drew HO_428003.out)
          replace BK417 := Aside0.mk (blk_drew BK417.out)
          replace BK427 := Aside0.mk (blk_drew BK427.out)
          replace HI418 := Aside0.mk (IsS99.drew HI418.out)
          replace HB := Aside0.mk (below_drew1 HB.out)
          refine start_ (n := 8) (S := fun w' => w'.cell? ⟨gb427, 0, none⟩ = some (.int .i64 t424) ∧ w'.cell? ⟨gb427, 1, none⟩ = some (.string (strOfNums t431)) ∧ w'.cell? ⟨gb427, 2, none⟩ = some (.string (strOfNums t440)) ∧ w'.cell? ⟨gb427, 3, none⟩ = some (u428003) ∧ w'.cell? ⟨gb427, 4, none⟩ = some (.int .i64 0) ∧ w'.cell? ⟨gb427, 5, none⟩ = some (.int .i64 0) ∧ w'.cell? ⟨gb427, 6, none⟩ = some (.int .i64 0) ∧ w'.cell? ⟨gb427, 7, none⟩ = some (.slice none 0 0)) (ds := [7]) #[false, false, false, false, false, false, false, false] (by kernel_rfl) rfl rfl ⟨(blk_cell BK427.out 0).trans rfl, (blk_cell BK427.out 1).trans rfl, (blk_cell BK427.out 2).trans rfl, (blk_cell BK427.out 3).trans rfl, (blk_cell BK427.out 4).trans rfl, (blk_cell BK427.out 5).trans rfl, (blk_cell BK427.out 6).trans rfl, (blk_cell BK427.out 7).trans rfl⟩ (fun hHeld => ?_); refine with_tabW impl_readOp.tab11 impl_readOp.bits11 (fun HT_ HW_ => ?_)
          generalize wr.drew = w44 at HO_428003 BK417 BK427 HI418 HB hHeld ⊢
          refine pu_ (i := 0) (N := some 49) (v := ?_) (a' := ?_) rfl rfl (any_of HT_.out (by kernel_rfl)) (fun _ _ _ h => h) (Or.inl ⟨by rfl, ?_⟩) ?_ ?_; rotate_left
          · intro w'; go_simp; all_goals (first | with_reducible rfl | (simp [Instr.field, go_sem]; rfl))
          rotate_left
          · simp only [Act.put, List.setIfInBounds_toArray, List.set_cons_zero, List.set_cons_succ, i64_w, i32_w]; rfl
          refine pu_ (i := 2) (N := some 51) (v := ?_) (a' := ?_) rfl rfl (any_of HT_.out (by kernel_rfl)) (fun _ _ _ h => h) (Or.inl ⟨by rfl, ?_⟩) ?_ ?_; rotate_left
          · intro w'; go_simp; all_goals (first | with_reducible rfl | (simp [Instr.field, go_sem]; rfl))
          rotate_left
          · simp only [Act.put, List.setIfInBounds_toArray, List.set_cons_zero, List.set_cons_succ, i64_w, i32_w]; rfl
          refine ta_ (i := 1) (N := some 50) (v := ?_) (a' := ?_) rfl rfl (take_ofW HT_.out HW_.out (by kernel_rfl)) (fun _ _ _ h => h) (Or.inl ⟨by rfl, ?_⟩) hHeld ?_ ?_; rotate_left
          · rintro w' ⟨s0, s1, s2, s3, s4, s5, s6, s7⟩; go_simp; all_goals (first | with_reducible rfl | (simp [Instr.field, go_sem]; rfl))
          rotate_left
          · simp only [Act.put, List.setIfInBounds_toArray, List.set_cons_zero, List.set_cons_succ, i64_w, i32_w]; rfl
          refine on_ (i := 3) (N := some 52) rfl rfl (one_of HT_.out (by kernel_rfl)) (by decide) (fun K hK => ?_)
          refine goes_ Try.func87 (by kernel_rfl) rfl #[.pointer (some ⟨gb418, 0, none⟩)] (by rfl) rfl rfl (by (try simp only [List.map_toArray, List.map_cons, List.map_nil]); first | done | rfl | (simp only [List.length_drop, List.length_take]; rfl)) ?_
          with_reducible refine (impl_taker_two.calls gb418 x419000_2 x419001_2 t449 t450 t451 w _ ?side1 ?side2 A42.out).mono ?_
          (case side1 => repeat (first | (with_reducible first | exact HI418.out | apply IsS99.alloc | apply IsS99.drewN | apply IsS99.drew | apply IsS99.set_1 | refine IsS99.far ?_ NB418_417.out _ | refine IsS99.far ?_ NB418_427.out _) | exact HI418.out))
          (case side2 => repeat (first | (with_reducible first | exact HB.out | apply below_alloc | apply pw_below_drewN | apply below_drew1 | refine below_set ?_ (IsS99.ge HI418.out) | refine below_set ?_ GE417.out | refine below_set ?_ GE427.out) | exact HB.out))
          rintro e w45 ⟨rfl, hi, hb, hk⟩
          refine ⟨_, rfl, ?_⟩
          replace HO_428003 := Aside0.mk (Kd.R_mono (Kd.R_keep (IsS99.apart (show IsS99 w _ gb418 x419000_2 x419001_2 from by repeat (first | (with_reducible first | exact HI418.out | apply IsS99.alloc | apply IsS99.drewN | apply IsS99.drew | apply IsS99.set_1 | refine IsS99.far ?_ NB418_417.out _ | refine IsS99.far ?_ NB418_427.out _) | exact HI418.out)) (R_up HO_428003.out) (by decide)) hk (fun _ h => h.2)) (fun _ h => h.1))
          replace BK417 := Aside0.mk (KeepBut.blk hk (g' := gb417) (o := .cells #[.int .i64 0, .string (⟨#[]⟩ : ByteArray), .string (⟨#[]⟩ : ByteArray), .slice none 0 0, .int .i64 0, .int .i64 0, .int .i64 0, .slice none 0 0] 37 (0, 0)) (blk_up BK417.out) NB417_418.out (by simp))
          replace BK427 := Aside0.mk (KeepBut.blk hk (g' := gb427) (blk_up BK427.out) NB427_418.out (by simp))
          replace HB := Aside0.mk (hb)
          replace HI418 := Aside0.mk (hi)
          (try clear hb)
          refine hK.out _ _ ⟨(blk_cell BK427.out 0).trans rfl, (blk_cell BK427.out 1).trans rfl, (blk_cell BK427.out 2).trans rfl, (blk_cell BK427.out 3).trans rfl, (blk_cell BK427.out 4).trans rfl, (blk_cell BK427.out 5).trans rfl, (blk_cell BK427.out 6).trans rfl, (blk_cell BK427.out 7).trans rfl⟩ (fun hHeld => ?_)
          clear hK K
          refine norm_ (a' := ?_) ?_ ?_
          rotate_left
          · show Act.put _ (some 52) _ = _
            simp only [Act.put, List.setIfInBounds_toArray, List.set_cons_zero, List.set_cons_succ, i64_w, i32_w]
            rfl
          refine on_ (i := 4) (N := some 53) rfl rfl (one_of HT_.out (by kernel_rfl)) (by decide) (fun K hK => ?_)
          refine value_ (w1 := ?_) (v := ?_) (by rfl) rfl ?_ ?_
          rotate_left 2
          · go_simp
            constructor
            · rfl
            · rfl
          refine hK.out _ _ ⟨(blk_cell (blk_alloc BK427.out _) 0).trans rfl, (blk_cell (blk_alloc BK427.out _) 1).trans rfl, (blk_cell (blk_alloc BK427.out _) 2).trans rfl, (blk_cell (blk_alloc BK427.out _) 3).trans rfl, (blk_cell (blk_alloc BK427.out _) 4).trans rfl, (blk_cell (blk_alloc BK427.out _) 5).trans rfl, (blk_cell (blk_alloc BK427.out _) 6).trans rfl, (blk_cell (blk_alloc BK427.out _) 7).trans rfl⟩ (fun hHeld => ?_)
          clear hK K
          refine norm_ (a' := ?_) ?_ ?_
          rotate_left
          · show Act.put _ (some 53) _ = _
            simp only [Act.put, List.setIfInBounds_toArray, List.set_cons_zero, List.set_cons_succ, i64_w, i32_w]
            rfl
          refine on_ (i := 5) (N := some 54) rfl rfl (one_of HT_.out (by kernel_rfl)) (by decide) (fun K hK => ?_)
          refine Kd.R_append_step (Kd.int .i64) (w0 := w) w.heap.size (by rfl) (.tmp 50) (.tmp 53) 35 2 (.int .i64 0) 8 rfl Try.underlying35 info2 rfl (by decide) (by omega) u428003 x428003_2 t449 [.int .i64 t449] (fun _ => True) (fun _ => False) rfl rfl ?aP (fun _ hk => hk.elim) ?aF ?aO ?aB ?aS ?aL ?_
          (case aP => exact rfl)
          (case aB => exact (by repeat (first | (with_reducible first | exact HB.out | apply below_alloc | apply pw_below_drewN | apply below_drew1 | refine below_set ?_ (IsS99.ge HI418.out) | refine below_set ?_ GE417.out | refine below_set ?_ GE427.out) | exact HB.out)))
          (case aF => exact (fun _ _ => trivial))
          (case aO => exact (R_up HO_428003.out))
          (case aS => exact (below_size (by repeat (first | (with_reducible first | exact HB.out | apply below_alloc | apply pw_below_drewN | apply below_drew1 | refine below_set ?_ (IsS99.ge HI418.out) | refine below_set ?_ GE417.out | refine below_set ?_ GE427.out) | exact HB.out))))
          (case aL => have := LMc43.out; omega)
          intro v453 w46 ho hb hg hat
          rw [← Ny452.out] at ho
          have n0_ := Aside0.mk (blk_grown (g := gb417) (o := .cells #[.int .i64 0, .string (⟨#[]⟩ : ByteArray), .string (⟨#[]⟩ : ByteArray), .slice none 0 0, .int .i64 0, .int .i64 0, .int .i64 0, .slice none 0 0] 37 (0, 0)) (blk_up BK417.out) hg (Kd.R_ne HO_428003.out BK417.out (by decide)))
          have n1_ := Aside0.mk (blk_grown (g := gb427) (blk_up BK427.out) hg (Kd.R_ne HO_428003.out BK427.out (by decide)))
          have n2_ := Aside0.mk (IsS99.grown (by repeat (first | (with_reducible first | exact HI418.out | apply IsS99.alloc | apply IsS99.drewN | apply IsS99.drew | apply IsS99.set_1 | refine IsS99.far ?_ NB418_417.out _ | refine IsS99.far ?_ NB418_427.out _) | exact HI418.out)) hg (IsS99.own_ne HI418.out HO_428003.out (by decide)))
          have n3_ := Aside0.mk (hb)
          have n4_ := Aside0.mk (ho)
          clear BK417
          clear BK427
          clear HI418
          clear HB
          clear HO_428003
          have BK417 := n0_
          have BK427 := n1_
          have HI418 := n2_
          have HB := n3_
          have HO454 := n4_
          clear n0_ n1_ n2_ n3_ n4_
          clear ho hb hg hat
          obtain ⟨Ao47, co47, eo47⟩ := Kd.R_slice HO454.out
          (first | subst eo47 | (injection eo47 with f1_ f2_ f3_; have f4_ := f1_.symm; have f5_ := f3_.symm; clear f1_ f2_ f3_; subst f4_; subst f5_))
          refine hK.out _ _ ⟨(blk_cell BK427.out 0).trans rfl, (blk_cell BK427.out 1).trans rfl, (blk_cell BK427.out 2).trans rfl, (blk_cell BK427.out 3).trans rfl, (blk_cell BK427.out 4).trans rfl, (blk_cell BK427.out 5).trans rfl, (blk_cell BK427.out 6).trans rfl, (blk_cell BK427.out 7).trans rfl⟩ (fun hHeld => ?_)
          clear hK K
          refine norm_ (a' := ?_) ?_ ?_
          rotate_left
          · show Act.put _ (some 54) _ = _
            simp only [Act.put, List.setIfInBounds_toArray, List.set_cons_zero, List.set_cons_succ, i64_w, i32_w]
            rfl
          refine pu_ (i := 6) (N := some 55) (v := ?_) (a' := ?_) rfl rfl (any_of HT_.out (by kernel_rfl)) (fun _ _ _ h => h) (Or.inl ⟨by rfl, ?_⟩) ?_ ?_; rotate_left
          · intro w'; go_simp; all_goals (first | with_reducible rfl | (simp [Instr.field, go_sem]; rfl))
          rotate_left
          · simp only [Act.put, List.setIfInBounds_toArray, List.set_cons_zero, List.set_cons_succ, i64_w, i32_w]; rfl
          refine la_ (i := 7) (N := none) rfl rfl (one_of HT_.out (by kernel_rfl)) (by decide) (fun K hK => ?_)
          have hs48 : w46.cell? ⟨gb427, 3, none⟩ = some (u428003) := (blk_cell BK427.out 3).trans rfl
          have hfs48 := blk_frozen BK427.out 3
          have hns48_0 := NB417_427.out
          have hms48_0 := NB427_417.out
          refine skip_ (w1 := ?_) (by rfl) rfl ?_ ?_
          rotate_left
          · go_simp
            rfl
          refine hK.out _ _ ?_
          clear hK K
          refine done_ (done_of HT_.out (by kernel_rfl)) ?_
          try go_wp2
          go_roundg k2
          case measure => have := HJ2.out; have := HK2.out; omega
          case rel => exact ⟨(wrap64 (x47_2 + 1)), (t450), (t451), (y452), (.slice Ao47 y452.length co47), vl_, H', ⟨by have := HJ2.out; have := HK2.out; omega⟩, ⟨by (with_reducible repeat (first | apply Kd.R_alloc | apply Kd.R_drewN | apply Kd.R_drew)); exact Kd.R_mono (Kd.R_far (p := ⟨gb427, 3, none⟩) (Kd.R_types HO454.out BK427.out (by decide)) (fun _ hk => hk.2) (.slice Ao47 y452.length co47)) (fun _ hk => trivial)⟩, ⟨by (with_reducible repeat (first | refine blk_drewN ?_ _ | refine blk_drew ?_ | refine blk_alloc ?_ _)); refine blk_far ?_ NB417_427.out _; (with_reducible repeat (first | refine blk_drewN ?_ _ | refine blk_drew ?_ | refine blk_alloc ?_ _)); exact BK417.out⟩, ⟨by (with_reducible repeat (first | refine blk_drewN ?_ _ | refine blk_drew ?_ | refine blk_alloc ?_ _)); refine blk_put (cs := #[.int .i64 t424, .string (strOfNums t431), .string (strOfNums t440), u428003, .int .i64 0, .int .i64 0, .int .i64 0, .slice none 0 0]) ?_ 3 _ rfl; (with_reducible repeat (first | refine blk_drewN ?_ _ | refine blk_drew ?_ | refine blk_alloc ?_ _)); exact BK427.out⟩, ⟨by repeat (first | (with_reducible first | exact HI418.out | apply IsS99.alloc | apply IsS99.drewN | apply IsS99.drew | apply IsS99.set_1 | refine IsS99.far ?_ NB418_417.out _ | refine IsS99.far ?_ NB418_427.out _) | exact HI418.out)⟩, ⟨by repeat (first | (with_reducible first | exact HB.out | apply below_alloc | apply pw_below_drewN | apply below_drew1 | refine below_set ?_ (IsS99.ge HI418.out) | refine below_set ?_ GE417.out | refine below_set ?_ GE427.out) | exact HB.out)⟩⟩
         ·
          rw [if_neg c41] at H
          have c41b0 : decide (x47_2 < t446) = false := decide_eq_false c41
          clear c41
          replace H := Option.bind_eq_some_iff.mp H
          obtain ⟨⟨t455, t456, t457⟩, A490, H⟩ := H
          (try dsimp only at H)
          have A49 := Aside0.mk A490
          clear A490
          replace H := Option.bind_eq_some_iff.mp H
          obtain ⟨⟨t458, t459, t460⟩, A500, H⟩ := H
          (try dsimp only at H)
          have A50 := Aside0.mk A500
          clear A500
          replace H := Option.bind_eq_some_iff.mp H
          obtain ⟨⟨t461, t462, t463⟩, A510, H⟩ := H
          (try dsimp only at H)
          have A51 := Aside0.mk A510
          clear A510
          obtain ⟨y464, hy464⟩ : ∃ y_ : List Int, y_ = (([] : List Int)) := ⟨_, rfl⟩
          replace H : ((impl_taker_two.f t462 t463).bind fun bt467 => ((impl_taker_take.f bt467.2.1 bt467.2.2 bt467.1).bind fun bt470 => (if y464.length + bt470.1.length < 140737488355328 then ((some (y464 ++ bt470.1 : List Int)).bind fun y476 => (if bt470.2.2 = true then (some (0, (⟨#[]⟩ : ByteArray), (⟨#[]⟩ : ByteArray), ([] : List Int), 0, 0, 0, ([] : List Int), 0)) else ((impl_OpFault.f k2 t424 (strOfNums t431) (strOfNums t440) x428003_2 t455 t458 t461 y476).bind fun t480 => (if t480 = 0 then ((impl_packed.f k2 t424 (strOfNums t431) (strOfNums t440) x428003_2 t455 t458 t461 y476).bind fun t481 => (if 0 ≤ t419 then (if t419 ≤ (l0.length : Int) then ((bytes_Equal.f t481 (l0.take (t419 : Int).toNat)).bind fun t485 => (if t485 = true then (some (t424, (strOfNums t431), (strOfNums t440), x428003_2, t455, t458, t461, y476, t419)) else (some (0, (⟨#[]⟩ : ByteArray), (⟨#[]⟩ : ByteArray), ([] : List Int), 0, 0, 0, ([] : List Int), 0)))) else (none)) else (none))) else (some (0, (⟨#[]⟩ : ByteArray), (⟨#[]⟩ : ByteArray), ([] : List Int), 0, 0, 0, ([] : List Int), 0)))))) else (none)))) = some (r1, r2, r3, r4, r5, r6, r7, r8, r9) := by first | (rw [hy464]; with_reducible exact H) | (have H2_ := (Option.bind_some _ _).symm.trans H; rw [hy464]; with_reducible exact H2_) | (have H2_ := (Option.bind_some _ _).symm.trans H; with_reducible exact H2_) | with_reducible exact H | (rw [hy464]; exact H) | exact H
          have Ny464 := Aside0.mk hy464
          clear hy464
          replace H := Option.bind_eq_some_iff.mp H
          obtain ⟨⟨t467, t468, t469⟩, A520, H⟩ := H
          (try dsimp only at H)
          have A52 := Aside0.mk A520
          clear A520
          replace H := Option.bind_eq_some_iff.mp H
          obtain ⟨⟨t470, t474, t475⟩, A530, H⟩ := H
          (try dsimp only at H)
          have A53 := Aside0.mk A530
          clear A530
          by_cases c54 : y464.length + t470.length < 140737488355328
          case neg => rw [if_neg c54] at H; exact absurd H (by simp)
          rw [if_pos c54] at H
          have LMc54 := Aside0.mk c54
          clear c54
          obtain ⟨y476, hy476⟩ : ∃ y_ : List Int, y_ = (y464 ++ t470) := ⟨_, rfl⟩
          replace H : (if t475 = true then (some (0, (⟨#[]⟩ : ByteArray), (⟨#[]⟩ : ByteArray), ([] : List Int), 0, 0, 0, ([] : List Int), 0)) else ((impl_OpFault.f k2 t424 (strOfNums t431) (strOfNums t440) x428003_2 t455 t458 t461 y476).bind fun t480 => (if t480 = 0 then ((impl_packed.f k2 t424 (strOfNums t431) (strOfNums t440) x428003_2 t455 t458 t461 y476).bind fun t481 => (if 0 ≤ t419 then (if t419 ≤ (l0.length : Int) then ((bytes_Equal.f t481 (l0.take (t419 : Int).toNat)).bind fun t485 => (if t485 = true then (some (t424, (strOfNums t431), (strOfNums t440), x428003_2, t455, t458, t461, y476, t419)) else (some (0, (⟨#[]⟩ : ByteArray), (⟨#[]⟩ : ByteArray), ([] : List Int), 0, 0, 0, ([] : List Int), 0)))) else (none)) else (none))) else (some (0, (⟨#[]⟩ : ByteArray), (⟨#[]⟩ : ByteArray), ([] : List Int), 0, 0, 0, ([] : List Int), 0))))) = some (r1, r2, r3, r4, r5, r6, r7, r8, r9) := by first | (rw [hy476]; with_reducible exact H) | (have H2_ := (Option.bind_some _ _).symm.trans H; rw [hy476]; with_reducible exact H2_) | (have H2_ := (Option.bind_some _ _).symm.trans H; with_reducible exact H2_) | with_reducible exact H | (rw [hy476]; exact H) | exact H
          have Ny476 := Aside0.mk hy476
          clear hy476
          try go_wp2_with (first | ((with_reducible refine gate_callee (f := 89) rfl ?_); refine goesY_ (some 58) Try.func89 #[.pointer (some ⟨gb418, 0, none⟩)] rfl ?_; (with_reducible refine (impl_taker_one.calls gb418 x419000_2 x419001_2 t455 t456 t457 w _ ?side1 ?side2 A49.out).mono ?_); (case side1 => repeat (first | (with_reducible first | exact HI418.out | apply IsS99.alloc | apply IsS99.drewN | apply IsS99.drew | apply IsS99.set_1 | refine IsS99.far ?_ NB418_417.out _ | refine IsS99.far ?_ NB418_427.out _) | exact HI418.out)); (case side2 => repeat (first | (with_reducible first | exact HB.out | apply below_alloc | apply pw_below_drewN | apply below_drew1 | refine below_set ?_ (IsS99.ge HI418.out) | refine below_set ?_ GE417.out | refine below_set ?_ GE427.out) | exact HB.out)); rintro e w56 ⟨rfl, hi, hb, hk⟩; refine ⟨_, rfl, ?_⟩; replace HO_428003 := Aside0.mk (Kd.R_mono (Kd.R_keep (IsS99.apart (show IsS99 w _ gb418 x419000_2 x419001_2 from by repeat (first | (with_reducible first | exact HI418.out | apply IsS99.alloc | apply IsS99.drewN | apply IsS99.drew | apply IsS99.set_1 | refine IsS99.far ?_ NB418_417.out _ | refine IsS99.far ?_ NB418_427.out _) | exact HI418.out)) (R_up HO_428003.out) (by decide)) hk (fun _ h => h.2)) (fun _ h => h.1)); replace BK417 := Aside0.mk (KeepBut.blk hk (g' := gb417) (o := .cells #[.int .i64 0, .string (⟨#[]⟩ : ByteArray), .string (⟨#[]⟩ : ByteArray), .slice none 0 0, .int .i64 0, .int .i64 0, .int .i64 0, .slice none 0 0] 37 (0, 0)) (blk_up BK417.out) NB417_418.out (by simp)); replace BK427 := Aside0.mk (KeepBut.blk hk (g' := gb427) (blk_up BK427.out) NB427_418.out (by simp)); replace HB := Aside0.mk (hb); replace HI418 := Aside0.mk (hi); (try clear hb); have hnb57 := NB427_417.out; have hnc57 := NB417_427.out; have hnb58 := NB427_418.out; have hnc58 := NB418_427.out; obtain ⟨_, _, _, _, _, _, _, _⟩ := blk_cells8 BK427.out; obtain ⟨_, _, _, _, _, _, _, _⟩ := blk_frozen8 BK427.out) | ((with_reducible refine gate_callee (f := 89) rfl ?_); refine goesY_ (some 61) Try.func89 #[.pointer (some ⟨gb418, 0, none⟩)] rfl ?_; (with_reducible refine (impl_taker_one.calls gb418 t456 t457 t458 t459 t460 w _ ?side1 ?side2 A50.out).mono ?_); (case side1 => repeat (first | (with_reducible first | exact HI418.out | apply IsS99.alloc | apply IsS99.drewN | apply IsS99.drew | apply IsS99.set_1 | refine IsS99.far ?_ NB418_417.out _ | refine IsS99.far ?_ NB418_427.out _) | exact HI418.out)); (case side2 => repeat (first | (with_reducible first | exact HB.out | apply below_alloc | apply pw_below_drewN | apply below_drew1 | refine below_set ?_ (IsS99.ge HI418.out) | refine below_set ?_ GE417.out | refine below_set ?_ GE427.out) | exact HB.out)); rintro e w60 ⟨rfl, hi, hb, hk⟩; refine ⟨_, rfl, ?_⟩; replace HO_428003 := Aside0.mk (Kd.R_mono (Kd.R_keep (IsS99.apart (show IsS99 w _ gb418 t456 t457 from by repeat (first | (with_reducible first | exact HI418.out | apply IsS99.alloc | apply IsS99.drewN | apply IsS99.drew | apply IsS99.set_1 | refine IsS99.far ?_ NB418_417.out _ | refine IsS99.far ?_ NB418_427.out _) | exact HI418.out)) (by (with_reducible repeat (first | apply Kd.R_alloc | apply Kd.R_drewN | apply Kd.R_drew)); exact (Kd.R_mono (Kd.R_far (p := ⟨gb427, 4, none⟩) (Kd.R_types HO_428003.out BK427.out (by decide)) (fun _ hk => hk.2) (.int .i64 t455)) (fun _ h_ => h_.1))) (by decide)) hk (fun _ h => h.2)) (fun _ h => h.1)); replace BK417 := Aside0.mk (KeepBut.blk hk (g' := gb417) (o := .cells #[.int .i64 0, .string (⟨#[]⟩ : ByteArray), .string (⟨#[]⟩ : ByteArray), .slice none 0 0, .int .i64 0, .int .i64 0, .int .i64 0, .slice none 0 0] 37 (0, 0)) (by (with_reducible repeat (first | refine blk_drewN ?_ _ | refine blk_drew ?_ | refine blk_alloc ?_ _)); refine blk_far ?_ NB417_427.out _; (with_reducible repeat (first | refine blk_drewN ?_ _ | refine blk_drew ?_ | refine blk_alloc ?_ _)); exact BK417.out) NB417_418.out (by simp)); replace BK427 := Aside0.mk (KeepBut.blk hk (g' := gb427) (o := .cells #[.int .i64 t424, .string (strOfNums t431), .string (strOfNums t440), u428003, .int .i64 t455, .int .i64 0, .int .i64 0, .slice none 0 0] 37 (0, 0)) (by (with_reducible repeat (first | refine blk_drewN ?_ _ | refine blk_drew ?_ | refine blk_alloc ?_ _)); refine blk_put (cs := #[.int .i64 t424, .string (strOfNums t431), .string (strOfNums t440), u428003, .int .i64 0, .int .i64 0, .int .i64 0, .slice none 0 0]) ?_ 4 _ rfl; (with_reducible repeat (first | refine blk_drewN ?_ _ | refine blk_drew ?_ | refine blk_alloc ?_ _)); exact BK427.out) NB427_418.out (by simp)); replace HB := Aside0.mk (hb); replace HI418 := Aside0.mk (hi); (try clear hb); obtain ⟨_, _, _, _, _, _, _, _⟩ := blk_cells8 BK427.out; obtain ⟨_, _, _, _, _, _, _, _⟩ := blk_frozen8 BK427.out) | ((with_reducible refine gate_callee (f := 87) rfl ?_); refine goesY_ (some 64) Try.func87 #[.pointer (some ⟨gb418, 0, none⟩)] rfl ?_; (with_reducible refine (impl_taker_two.calls gb418 t459 t460 t461 t462 t463 w _ ?side1 ?side2 A51.out).mono ?_); (case side1 => repeat (first | (with_reducible first | exact HI418.out | apply IsS99.alloc | apply IsS99.drewN | apply IsS99.drew | apply IsS99.set_1 | refine IsS99.far ?_ NB418_417.out _ | refine IsS99.far ?_ NB418_427.out _) | exact HI418.out)); (case side2 => repeat (first | (with_reducible first | exact HB.out | apply below_alloc | apply pw_below_drewN | apply below_drew1 | refine below_set ?_ (IsS99.ge HI418.out) | refine below_set ?_ GE417.out | refine below_set ?_ GE427.out) | exact HB.out)); rintro e w62 ⟨rfl, hi, hb, hk⟩; refine ⟨_, rfl, ?_⟩; replace HO_428003 := Aside0.mk (Kd.R_mono (Kd.R_keep (IsS99.apart (show IsS99 w _ gb418 t459 t460 from by repeat (first | (with_reducible first | exact HI418.out | apply IsS99.alloc | apply IsS99.drewN | apply IsS99.drew | apply IsS99.set_1 | refine IsS99.far ?_ NB418_417.out _ | refine IsS99.far ?_ NB418_427.out _) | exact HI418.out)) (by (with_reducible repeat (first | apply Kd.R_alloc | apply Kd.R_drewN | apply Kd.R_drew)); exact (Kd.R_mono (Kd.R_far (p := ⟨gb427, 5, none⟩) (Kd.R_types HO_428003.out BK427.out (by decide)) (fun _ hk => hk.2) (.int .i64 t458)) (fun _ h_ => h_.1))) (by decide)) hk (fun _ h => h.2)) (fun _ h => h.1)); replace BK417 := Aside0.mk (KeepBut.blk hk (g' := gb417) (o := .cells #[.int .i64 0, .string (⟨#[]⟩ : ByteArray), .string (⟨#[]⟩ : ByteArray), .slice none 0 0, .int .i64 0, .int .i64 0, .int .i64 0, .slice none 0 0] 37 (0, 0)) (by (with_reducible repeat (first | refine blk_drewN ?_ _ | refine blk_drew ?_ | refine blk_alloc ?_ _)); refine blk_far ?_ NB417_427.out _; (with_reducible repeat (first | refine blk_drewN ?_ _ | refine blk_drew ?_ | refine blk_alloc ?_ _)); exact BK417.out) NB417_418.out (by simp)); replace BK427 := Aside0.mk (KeepBut.blk hk (g' := gb427) (o := .cells #[.int .i64 t424, .string (strOfNums t431), .string (strOfNums t440), u428003, .int .i64 t455, .int .i64 t458, .int .i64 0, .slice none 0 0] 37 (0, 0)) (by (with_reducible repeat (first | refine blk_drewN ?_ _ | refine blk_drew ?_ | refine blk_alloc ?_ _)); refine blk_put (cs := #[.int .i64 t424, .string (strOfNums t431), .string (strOfNums t440), u428003, .int .i64 t455, .int .i64 0, .int .i64 0, .slice none 0 0]) ?_ 5 _ rfl; (with_reducible repeat (first | refine blk_drewN ?_ _ | refine blk_drew ?_ | refine blk_alloc ?_ _)); exact BK427.out) NB427_418.out (by simp)); replace HB := Aside0.mk (hb); replace HI418 := Aside0.mk (hi); (try clear hb); obtain ⟨_, _, _, _, _, _, _, _⟩ := blk_cells8 BK427.out; obtain ⟨_, _, _, _, _, _, _, _⟩ := blk_frozen8 BK427.out) | ((with_reducible refine gate_dst (N := 66) rfl ?_); refine Kd.R_lit (Kd.int .u8) _ 5 ?hg (N := 66) ?hd (xs := ([] : List Int)) (inner := []) (ok := fun _ => True) (okp := fun _ => True) ?hr ?hp (fun _ hk => hk) trivial (Below.refl _ _) (Nat.le_refl _) (by simp) ?_; (case hd => rfl); (case hg => rfl); (case hr => first | (go_simp; done) | (go_simp; rfl)); (case hp => exact (Reps.none _ _)); intro v465 w64 ho65 hb hg_ hnew_; clear hg_ hnew_; (first | rw [← Ny464.out] at ho65 | (simp only [Int.reduceToNat] at ho65; rw [← Ny464.out] at ho65)); have n0_ := Aside0.mk (Kd.R_below (by (with_reducible repeat (first | apply Kd.R_alloc | apply Kd.R_drewN | apply Kd.R_drew)); exact (Kd.R_mono (Kd.R_far (p := ⟨gb427, 6, none⟩) (Kd.R_types HO_428003.out BK427.out (by decide)) (fun _ hk => hk.2) (.int .i64 t461)) (fun _ h_ => h_.1))) hb); have n1_ := Aside0.mk (Kd.R_lower ho65 (below_size (by repeat (first | (with_reducible first | exact HB.out | apply below_alloc | apply pw_below_drewN | apply below_drew1 | refine below_set ?_ (IsS99.ge HI418.out) | refine below_set ?_ GE417.out | refine below_set ?_ GE427.out) | exact HB.out)))); have n2_ := Aside0.mk (blk_below (g := gb417) (o := .cells #[.int .i64 0, .string (⟨#[]⟩ : ByteArray), .string (⟨#[]⟩ : ByteArray), .slice none 0 0, .int .i64 0, .int .i64 0, .int .i64 0, .slice none 0 0] 37 (0, 0)) (by (with_reducible repeat (first | refine blk_drewN ?_ _ | refine blk_drew ?_ | refine blk_alloc ?_ _)); refine blk_far ?_ NB417_427.out _; (with_reducible repeat (first | refine blk_drewN ?_ _ | refine blk_drew ?_ | refine blk_alloc ?_ _)); exact BK417.out) hb); have n3_ := Aside0.mk (blk_below (g := gb427) (o := .cells #[.int .i64 t424, .string (strOfNums t431), .string (strOfNums t440), u428003, .int .i64 t455, .int .i64 t458, .int .i64 t461, .slice none 0 0] 37 (0, 0)) (by (with_reducible repeat (first | refine blk_drewN ?_ _ | refine blk_drew ?_ | refine blk_alloc ?_ _)); refine blk_put (cs := #[.int .i64 t424, .string (strOfNums t431), .string (strOfNums t440), u428003, .int .i64 t455, .int .i64 t458, .int .i64 0, .slice none 0 0]) ?_ 6 _ rfl; (with_reducible repeat (first | refine blk_drewN ?_ _ | refine blk_drew ?_ | refine blk_alloc ?_ _)); exact BK427.out) hb); have n4_ := Aside0.mk (IsS99.below (show IsS99 w (w62.setCell ⟨gb427, 6, none⟩ (.int .i64 t461)) gb418 t462 t463 from by repeat (first | (with_reducible first | exact HI418.out | apply IsS99.alloc | apply IsS99.drewN | apply IsS99.drew | apply IsS99.set_1 | refine IsS99.far ?_ NB418_417.out _ | refine IsS99.far ?_ NB418_427.out _) | exact HI418.out)) hb); have n5_ := Aside0.mk (below_step (by repeat (first | (with_reducible first | exact HB.out | apply below_alloc | apply pw_below_drewN | apply below_drew1 | refine below_set ?_ (IsS99.ge HI418.out) | refine below_set ?_ GE417.out | refine below_set ?_ GE427.out) | exact HB.out)) hb); clear HO_428003; clear BK417; clear BK427; clear HI418; clear HB; have HO_428003 := n0_; have HO466 := n1_; have BK417 := n2_; have BK427 := n3_; have HI418 := n4_; have HB := n5_; clear n0_ n1_ n2_ n3_ n4_ n5_; clear hb ho65) | ((with_reducible refine gate_callee (f := 87) rfl ?_); refine goesY_ (some 69) Try.func87 #[.pointer (some ⟨gb418, 0, none⟩)] rfl ?_; (with_reducible refine (impl_taker_two.calls gb418 t462 t463 t467 t468 t469 w _ ?side1 ?side2 A52.out).mono ?_); (case side1 => repeat (first | (with_reducible first | exact HI418.out | apply IsS99.alloc | apply IsS99.drewN | apply IsS99.drew | apply IsS99.set_1 | refine IsS99.far ?_ NB418_417.out _ | refine IsS99.far ?_ NB418_427.out _) | exact HI418.out)); (case side2 => repeat (first | (with_reducible first | exact HB.out | apply below_alloc | apply pw_below_drewN | apply below_drew1 | refine below_set ?_ (IsS99.ge HI418.out) | refine below_set ?_ GE417.out | refine below_set ?_ GE427.out) | exact HB.out)); rintro e w66 ⟨rfl, hi, hb, hk⟩; refine ⟨_, rfl, ?_⟩; replace HO_428003 := Aside0.mk (Kd.R_mono (Kd.R_keep (IsS99.apart (show IsS99 w _ gb418 t462 t463 from by repeat (first | (with_reducible first | exact HI418.out | apply IsS99.alloc | apply IsS99.drewN | apply IsS99.drew | apply IsS99.set_1 | refine IsS99.far ?_ NB418_417.out _ | refine IsS99.far ?_ NB418_427.out _) | exact HI418.out)) (R_up HO_428003.out) (by decide)) hk (fun _ h => h.2)) (fun _ h => h.1)); replace BK417 := Aside0.mk (KeepBut.blk hk (g' := gb417) (o := .cells #[.int .i64 0, .string (⟨#[]⟩ : ByteArray), .string (⟨#[]⟩ : ByteArray), .slice none 0 0, .int .i64 0, .int .i64 0, .int .i64 0, .slice none 0 0] 37 (0, 0)) (blk_up BK417.out) NB417_418.out (by simp)); replace BK427 := Aside0.mk (KeepBut.blk hk (g' := gb427) (blk_up BK427.out) NB427_418.out (by simp)); replace HO466 := Aside0.mk (Kd.R_mono (Kd.R_keep (IsS99.apart (show IsS99 w _ gb418 t462 t463 from by repeat (first | (with_reducible first | exact HI418.out | apply IsS99.alloc | apply IsS99.drewN | apply IsS99.drew | apply IsS99.set_1 | refine IsS99.far ?_ NB418_417.out _ | refine IsS99.far ?_ NB418_427.out _) | exact HI418.out)) (R_up HO466.out) (by decide)) hk (fun _ h => h.2)) (fun _ h => h.1)); replace HB := Aside0.mk (hb); replace HI418 := Aside0.mk (hi); (try clear hb)) | ((with_reducible refine gate_callee (f := 90) rfl ?_); refine goesY_ (some 70) Try.func90 #[.pointer (some ⟨gb418, 0, none⟩), .int .i64 t467] rfl ?_; (with_reducible refine (impl_taker_take.calls gb418 t468 t469 t467 t470 t474 t475 w _ ?side1 ?side2 A53.out).mono ?_); (case side1 => repeat (first | (with_reducible first | exact HI418.out | apply IsS99.alloc | apply IsS99.drewN | apply IsS99.drew | apply IsS99.set_1 | refine IsS99.far ?_ NB418_417.out _ | refine IsS99.far ?_ NB418_427.out _) | exact HI418.out)); (case side2 => repeat (first | (with_reducible first | exact HB.out | apply below_alloc | apply pw_below_drewN | apply below_drew1 | refine below_set ?_ (IsS99.ge HI418.out) | refine below_set ?_ GE417.out | refine below_set ?_ GE427.out) | exact HB.out)); rintro e w67 ⟨vs_473, rfl, ho0, hi, hb, hk⟩; refine ⟨_, rfl, ?_⟩; obtain ⟨As473, cs473, es_, hC473, hc473⟩ := ho0; subst es_; replace HO_428003 := Aside0.mk (Kd.R_mono (Kd.R_keep (IsS99.apart (show IsS99 w _ gb418 t468 t469 from by repeat (first | (with_reducible first | exact HI418.out | apply IsS99.alloc | apply IsS99.drewN | apply IsS99.drew | apply IsS99.set_1 | refine IsS99.far ?_ NB418_417.out _ | refine IsS99.far ?_ NB418_427.out _) | exact HI418.out)) (R_up HO_428003.out) (by decide)) hk (fun _ h => h.2)) (fun _ h => h.1)); replace BK417 := Aside0.mk (KeepBut.blk hk (g' := gb417) (o := .cells #[.int .i64 0, .string (⟨#[]⟩ : ByteArray), .string (⟨#[]⟩ : ByteArray), .slice none 0 0, .int .i64 0, .int .i64 0, .int .i64 0, .slice none 0 0] 37 (0, 0)) (blk_up BK417.out) NB417_418.out (by simp)); replace BK427 := Aside0.mk (KeepBut.blk hk (g' := gb427) (blk_up BK427.out) NB427_418.out (by simp)); replace HO466 := Aside0.mk (Kd.R_mono (Kd.R_keep (IsS99.apart (show IsS99 w _ gb418 t468 t469 from by repeat (first | (with_reducible first | exact HI418.out | apply IsS99.alloc | apply IsS99.drewN | apply IsS99.drew | apply IsS99.set_1 | refine IsS99.far ?_ NB418_417.out _ | refine IsS99.far ?_ NB418_427.out _) | exact HI418.out)) (R_up HO466.out) (by decide)) hk (fun _ h => h.2)) (fun _ h => h.1)); have HRs473 := Aside0.mk (hC473); have HCs473 := Aside0.mk (hc473); replace HB := Aside0.mk (hb); replace HI418 := Aside0.mk (hi); (try clear hb); (try clear ho0)) | ((with_reducible refine gate_builtin (b := .append) (xs := #[.tmp 66, .tmp 70]) rfl ?_); at_builtin; refine Kd.R_append_rows (Kd.int .u8) (w0 := w) w.heap.size rfl (.tmp 66) (.tmp 70) 24 5 (.int .u8 0) 1 rfl Try.underlying24 info5 rfl (by decide) (by omega) v465 y464 t470 _ _ _ (fun _ => True) (fun _ => False) rfl rfl ?aO ?aR (fun _ _ h => h) (fun _ h => h.elim) ?aF ?aB ?aS ?aL ?_; (case aR => repeat (first | exact (by repeat (first | (with_reducible exact HRs473.out) | (with_reducible refine Kd.C_alloc ?_ _) | (with_reducible refine Kd.C_drewN ?_ _) | (with_reducible refine Kd.C_drew ?_) | exact HRs473.out)) | (with_reducible refine Kd.C_alloc ?_ _) | (with_reducible refine Kd.C_drewN ?_ _) | (with_reducible refine Kd.C_drew ?_))); (case aB => exact (by repeat (first | (with_reducible first | exact HB.out | apply below_alloc | apply pw_below_drewN | apply below_drew1 | refine below_set ?_ (IsS99.ge HI418.out) | refine below_set ?_ GE417.out | refine below_set ?_ GE427.out) | exact HB.out))); (case aF => exact (fun _ _ => trivial)); (case aO => exact (R_up HO466.out)); (case aS => exact (below_size (by repeat (first | (with_reducible first | exact HB.out | apply below_alloc | apply pw_below_drewN | apply below_drew1 | refine below_set ?_ (IsS99.ge HI418.out) | refine below_set ?_ GE417.out | refine below_set ?_ GE427.out) | exact HB.out)))); (case aL => have := LMc54.out; omega); intro v477 w68 ho hb hg hat; rw [← Ny476.out] at ho; have n0_ := Aside0.mk (Kd.R_over' (R_up HO_428003.out) (Kd.R_typed (R_up HO466.out)) (by decide) hg); have n1_ := Aside0.mk (blk_grown (g := gb417) (o := .cells #[.int .i64 0, .string (⟨#[]⟩ : ByteArray), .string (⟨#[]⟩ : ByteArray), .slice none 0 0, .int .i64 0, .int .i64 0, .int .i64 0, .slice none 0 0] 37 (0, 0)) (blk_up BK417.out) hg (Kd.R_ne HO466.out BK417.out (by decide))); have n2_ := Aside0.mk (blk_grown (g := gb427) (blk_up BK427.out) hg (Kd.R_ne HO466.out BK427.out (by decide))); have n3_ := Aside0.mk (IsS99.grown (by repeat (first | (with_reducible first | exact HI418.out | apply IsS99.alloc | apply IsS99.drewN | apply IsS99.drew | apply IsS99.set_1 | refine IsS99.far ?_ NB418_417.out _ | refine IsS99.far ?_ NB418_427.out _) | exact HI418.out)) hg (IsS99.own_ne HI418.out HO466.out (by decide))); have n4_ := Aside0.mk (hb); have n5_ := Aside0.mk (ho); clear HO_428003; clear BK417; clear BK427; clear HI418; clear HB; clear HO466; have HO_428003 := n0_; have BK417 := n1_; have BK427 := n2_; have HI418 := n3_; have HB := n4_; have HO478 := n5_; clear n0_ n1_ n2_ n3_ n4_ n5_; clear ho hb hg hat; obtain ⟨Ao69, co69, eo69⟩ := Kd.R_slice HO478.out; subst eo69; obtain ⟨_, _, _, _, _, _, _, _⟩ := blk_cells8 BK427.out; obtain ⟨_, _, _, _, _, _, _, _⟩ := blk_frozen8 BK427.out))
          have n0_ : Aside0 (Kd.R (Kd.int .i64) 2 (w68.setCell ⟨gb427, 7, none⟩ (.slice Ao69 y476.length co69)) w.heap.size (fun _ => True) u428003 x428003_2) := ⟨by (with_reducible repeat (first | apply Kd.R_alloc | apply Kd.R_drewN | apply Kd.R_drew)); exact Kd.R_mono (Kd.R_far (p := ⟨gb427, 7, none⟩) (Kd.R_types HO_428003.out BK427.out (by decide)) (fun _ hk => hk.2) (.slice Ao69 y476.length co69)) (fun _ hk => trivial)⟩
          have n1_ : Aside0 (Kd.R (Kd.int .u8) 5 (w68.setCell ⟨gb427, 7, none⟩ (.slice Ao69 y476.length co69)) w.heap.size (fun _ => True) (.slice Ao69 y476.length co69) y476) := ⟨by (with_reducible repeat (first | apply Kd.R_alloc | apply Kd.R_drewN | apply Kd.R_drew)); exact Kd.R_mono (Kd.R_far (p := ⟨gb427, 7, none⟩) (Kd.R_types HO478.out BK427.out (by decide)) (fun _ hk => hk.2) (.slice Ao69 y476.length co69)) (fun _ hk => trivial)⟩
          have n2_ : Aside0 ((w68.setCell ⟨gb427, 7, none⟩ (.slice Ao69 y476.length co69)).heap[gb417]? = some (.cells #[.int .i64 0, .string (⟨#[]⟩ : ByteArray), .string (⟨#[]⟩ : ByteArray), .slice none 0 0, .int .i64 0, .int .i64 0, .int .i64 0, .slice none 0 0] 37 (0, 0))) := ⟨by (with_reducible repeat (first | refine blk_drewN ?_ _ | refine blk_drew ?_ | refine blk_alloc ?_ _)); refine blk_far ?_ NB417_427.out _; (with_reducible repeat (first | refine blk_drewN ?_ _ | refine blk_drew ?_ | refine blk_alloc ?_ _)); exact BK417.out⟩
          have n3_ : Aside0 ((w68.setCell ⟨gb427, 7, none⟩ (.slice Ao69 y476.length co69)).heap[gb427]? = some (.cells #[.int .i64 t424, .string (strOfNums t431), .string (strOfNums t440), u428003, .int .i64 t455, .int .i64 t458, .int .i64 t461, .slice Ao69 y476.length co69] 37 (0, 0))) := ⟨by (with_reducible repeat (first | refine blk_drewN ?_ _ | refine blk_drew ?_ | refine blk_alloc ?_ _)); refine blk_put (cs := #[.int .i64 t424, .string (strOfNums t431), .string (strOfNums t440), u428003, .int .i64 t455, .int .i64 t458, .int .i64 t461, .slice none 0 0]) ?_ 7 _ rfl; (with_reducible repeat (first | refine blk_drewN ?_ _ | refine blk_drew ?_ | refine blk_alloc ?_ _)); exact BK427.out⟩
          have n4_ : Aside0 (IsS99 w (w68.setCell ⟨gb427, 7, none⟩ (.slice Ao69 y476.length co69)) gb418 t474 t475) := ⟨by repeat (first | (with_reducible first | exact HI418.out | apply IsS99.alloc | apply IsS99.drewN | apply IsS99.drew | apply IsS99.set_1 | refine IsS99.far ?_ NB418_417.out _ | refine IsS99.far ?_ NB418_427.out _) | exact HI418.out)⟩
          have n5_ : Aside0 (Below w.heap.size w (w68.setCell ⟨gb427, 7, none⟩ (.slice Ao69 y476.length co69))) := ⟨by repeat (first | (with_reducible first | exact HB.out | apply below_alloc | apply pw_below_drewN | apply below_drew1 | refine below_set ?_ (IsS99.ge HI418.out) | refine below_set ?_ GE417.out | refine below_set ?_ GE427.out) | exact HB.out)⟩
          (try clear HO_428003)
          (try clear HO478)
          (try clear BK417)
          (try clear BK427)
          (try clear HI418)
          (try clear HB)
          generalize (w68.setCell ⟨gb427, 7, none⟩ (.slice Ao69 y476.length co69)) = w71 at n0_ n1_ n2_ n3_ n4_ n5_ ⊢
          have HO_428003 := n0_
          have HO478 := n1_
          have BK417 := n2_
          have BK427 := n3_
          have HI418 := n4_
          have HB := n5_
          clear n0_ n1_ n2_ n3_ n4_ n5_
          obtain ⟨AB479, cB479, hbk_, hge_, hrb479_, hqb479_⟩ := HI418.out
          clear HI418 hge_
          have BK418 := Aside0.mk hbk_
          have HRB479 := Aside0.mk hrb479_
          have HCB479 := Aside0.mk hqb479_
          clear hbk_ hrb479_ hqb479_
          replace HO_428003 := Aside0.mk (Kd.R_drew HO_428003.out)
          replace HO478 := Aside0.mk (Kd.R_drew HO478.out)
          replace BK417 := Aside0.mk (blk_drew BK417.out)
          replace BK427 := Aside0.mk (blk_drew BK427.out)
          replace BK418 := Aside0.mk (blk_drew BK418.out)
          replace HB := Aside0.mk (below_drew1 HB.out)
          by_cases c55 : t475 = true
          ·
           subst c55
           (try rw [if_pos rfl] at H)
           simp only [Option.some.injEq, Prod.mk.injEq] at H
           obtain ⟨rfl, rfl, rfl, rfl, rfl, rfl, rfl, rfl, rfl⟩ := H
           refine start_ (n := 18) (S := fun w' => w'.cell? ⟨gb418, 0, none⟩ = some (.slice AB479 t474.length cB479) ∧ w'.cell? ⟨gb418, 1, none⟩ = some (.bool true)) (ds := []) #[false, false, false, false, false, false, false, false, false, false, false, false, false, false, false, false, false, false] (by kernel_rfl) rfl rfl ⟨(blk_cell BK418.out 0).trans rfl, (blk_cell BK418.out 1).trans rfl⟩ (fun hHeld => ?_); refine with_tabW impl_readOp.tab17 impl_readOp.bits17 (fun HT_ HW_ => ?_)
           generalize w71.drew = w72 at HO_428003 HO478 BK417 BK427 BK418 HB hHeld ⊢
           refine pu_ (i := 0) (N := some 73) (v := ?_) (a' := ?_) rfl rfl (any_of HT_.out (by kernel_rfl)) (fun _ _ _ h => h) (Or.inl ⟨by rfl, ?_⟩) ?_ ?_; rotate_left
           · intro w'; go_simp; all_goals (first | with_reducible rfl | (simp [Instr.field, go_sem]; rfl))
           rotate_left
           · simp only [Act.put, List.setIfInBounds_toArray, List.set_cons_zero, List.set_cons_succ, i64_w, i32_w]; rfl
           refine pu_ (i := 1) (N := some 74) (v := ?_) (a' := ?_) rfl rfl (any_of HT_.out (by kernel_rfl)) (fun _ _ _ h => h) (Or.inl ⟨by rfl, ?_⟩) ?_ ?_; rotate_left
           · intro w'; go_simp; all_goals (first | with_reducible rfl | (simp [Instr.field, go_sem]; rfl))
           rotate_left
           · simp only [Act.put, List.setIfInBounds_toArray, List.set_cons_zero, List.set_cons_succ, i64_w, i32_w]; rfl
           refine pu_ (i := 2) (N := some 75) (v := ?_) (a' := ?_) rfl rfl (any_of HT_.out (by kernel_rfl)) (fun _ _ _ h => h) (Or.inl ⟨by rfl, ?_⟩) ?_ ?_; rotate_left
           · intro w'; go_simp; all_goals (first | with_reducible rfl | (simp [Instr.field, go_sem]; rfl))
           rotate_left
           · simp only [Act.put, List.setIfInBounds_toArray, List.set_cons_zero, List.set_cons_succ, i64_w, i32_w]; rfl
           refine ta_ (i := 3) (N := some 76) (v := ?_) (a' := ?_) rfl rfl (take_ofW HT_.out HW_.out (by kernel_rfl)) (fun _ _ _ h => h) (Or.inl ⟨by rfl, ?_⟩) hHeld ?_ ?_; rotate_left
           · rintro w' ⟨s0, s1⟩; go_simp; all_goals (first | with_reducible rfl | (simp [Instr.field, go_sem]; rfl))
           rotate_left
           · simp only [Act.put, List.setIfInBounds_toArray, List.set_cons_zero, List.set_cons_succ, i64_w, i32_w]; rfl
           refine pu_ (i := 4) (N := some 77) (v := ?_) (a' := ?_) rfl rfl (any_of HT_.out (by kernel_rfl)) (fun _ _ _ h => h) (Or.inl ⟨by rfl, ?_⟩) ?_ ?_; rotate_left
           · intro w'; go_simp; all_goals (first | with_reducible rfl | (simp [Instr.field, go_sem]; rfl))
           rotate_left
           · simp only [Act.put, List.setIfInBounds_toArray, List.set_cons_zero, List.set_cons_succ, i64_w, i32_w]; rfl
           refine pu_ (i := 5) (N := some 78) (v := undef) (a' := ?_) rfl rfl (any_of HT_.out (by kernel_rfl)) (fun _ _ _ h => h) (Or.inr ⟨by rfl, rfl⟩) ?_ ?_; rotate_left
           · simp only [Act.put, List.setIfInBounds_toArray, List.set_cons_zero, List.set_cons_succ, i64_w, i32_w]; rfl
           refine pu_ (i := 6) (N := some 79) (v := undef) (a' := ?_) rfl rfl (any_of HT_.out (by kernel_rfl)) (fun _ _ _ h => h) (Or.inr ⟨by rfl, rfl⟩) ?_ ?_; rotate_left
           · simp only [Act.put, List.setIfInBounds_toArray, List.set_cons_zero, List.set_cons_succ, i64_w, i32_w]; rfl
           refine pu_ (i := 7) (N := some 80) (v := undef) (a' := ?_) rfl rfl (any_of HT_.out (by kernel_rfl)) (fun _ _ _ h => h) (Or.inr ⟨by rfl, rfl⟩) ?_ ?_; rotate_left
           · simp only [Act.put, List.setIfInBounds_toArray, List.set_cons_zero, List.set_cons_succ, i64_w, i32_w]; rfl
           refine pu_ (i := 8) (N := some 81) (v := ?_) (a' := ?_) rfl rfl (any_of HT_.out (by kernel_rfl)) (fun _ _ _ h => h) (Or.inl ⟨by rfl, ?_⟩) ?_ ?_; rotate_left
           · intro w'; go_simp; all_goals (first | with_reducible rfl | (simp [Instr.field, go_sem]; rfl))
           rotate_left
           · simp only [Act.put, List.setIfInBounds_toArray, List.set_cons_zero, List.set_cons_succ, i64_w, i32_w]; rfl
           refine pu_ (i := 9) (N := some 82) (v := ?_) (a' := ?_) rfl rfl (any_of HT_.out (by kernel_rfl)) (fun _ _ _ h => h) (Or.inl ⟨by rfl, ?_⟩) ?_ ?_; rotate_left
           · intro w'; go_simp; all_goals (first | with_reducible rfl | (simp [Instr.field, go_sem]; rfl))
           rotate_left
           · simp only [Act.put, List.setIfInBounds_toArray, List.set_cons_zero, List.set_cons_succ, i64_w, i32_w]; rfl
           refine pu_ (i := 10) (N := some 83) (v := undef) (a' := ?_) rfl rfl (any_of HT_.out (by kernel_rfl)) (fun _ _ _ h => h) (Or.inr ⟨by rfl, rfl⟩) ?_ ?_; rotate_left
           · simp only [Act.put, List.setIfInBounds_toArray, List.set_cons_zero, List.set_cons_succ, i64_w, i32_w]; rfl
           refine pu_ (i := 11) (N := some 84) (v := undef) (a' := ?_) rfl rfl (any_of HT_.out (by kernel_rfl)) (fun _ _ _ h => h) (Or.inr ⟨by rfl, rfl⟩) ?_ ?_; rotate_left
           · simp only [Act.put, List.setIfInBounds_toArray, List.set_cons_zero, List.set_cons_succ, i64_w, i32_w]; rfl
           refine pu_ (i := 12) (N := some 85) (v := undef) (a' := ?_) rfl rfl (any_of HT_.out (by kernel_rfl)) (fun _ _ _ h => h) (Or.inr ⟨by rfl, rfl⟩) ?_ ?_; rotate_left
           · simp only [Act.put, List.setIfInBounds_toArray, List.set_cons_zero, List.set_cons_succ, i64_w, i32_w]; rfl
           refine pu_ (i := 13) (N := some 86) (v := undef) (a' := ?_) rfl rfl (any_of HT_.out (by kernel_rfl)) (fun _ _ _ h => h) (Or.inr ⟨by rfl, rfl⟩) ?_ ?_; rotate_left
           · simp only [Act.put, List.setIfInBounds_toArray, List.set_cons_zero, List.set_cons_succ, i64_w, i32_w]; rfl
           refine pu_ (i := 14) (N := some 87) (v := undef) (a' := ?_) rfl rfl (any_of HT_.out (by kernel_rfl)) (fun _ _ _ h => h) (Or.inr ⟨by rfl, rfl⟩) ?_ ?_; rotate_left
           · simp only [Act.put, List.setIfInBounds_toArray, List.set_cons_zero, List.set_cons_succ, i64_w, i32_w]; rfl
           refine pu_ (i := 15) (N := some 88) (v := undef) (a' := ?_) rfl rfl (any_of HT_.out (by kernel_rfl)) (fun _ _ _ h => h) (Or.inr ⟨by rfl, rfl⟩) ?_ ?_; rotate_left
           · simp only [Act.put, List.setIfInBounds_toArray, List.set_cons_zero, List.set_cons_succ, i64_w, i32_w]; rfl
           refine pu_ (i := 16) (N := some 89) (v := undef) (a' := ?_) rfl rfl (any_of HT_.out (by kernel_rfl)) (fun _ _ _ h => h) (Or.inr ⟨by rfl, rfl⟩) ?_ ?_; rotate_left
           · simp only [Act.put, List.setIfInBounds_toArray, List.set_cons_zero, List.set_cons_succ, i64_w, i32_w]; rfl
           refine pu_ (i := 17) (N := some 90) (v := ?_) (a' := ?_) rfl rfl (any_of HT_.out (by kernel_rfl)) (fun _ _ _ h => h) (Or.inl ⟨by rfl, ?_⟩) ?_ ?_; rotate_left
           · intro w'; go_simp; all_goals (first | with_reducible rfl | (simp [Instr.field, go_sem]; rfl))
           rotate_left
           · simp only [Act.put, List.setIfInBounds_toArray, List.set_cons_zero, List.set_cons_succ, i64_w, i32_w]; rfl
           refine done_ (done_of HT_.out (by kernel_rfl)) ?_
           have hnb73 := NB417_418.out
           have hnc73 := NB418_417.out
           obtain ⟨_, _, _, _, _, _, _, _⟩ := blk_cells8 BK417.out
           obtain ⟨_, _, _, _, _, _, _, _⟩ := blk_frozen8 BK417.out
           try go_wp2
           refine bodyPost_ret (results_ct rfl _ _ gb417 37 #[.int .i64 0, .string (⟨#[]⟩ : ByteArray), .string (⟨#[]⟩ : ByteArray), .slice none 0 0, .int .i64 0, .int .i64 0, .int .i64 0, .slice none 0 0] (0, 0) _ rfl (by (with_reducible repeat (first | refine blk_drewN ?_ _ | refine blk_drew ?_ | refine blk_alloc ?_ _)); refine blk_put (cs := #[.int .i64 0, .string (⟨#[]⟩ : ByteArray), .string (⟨#[]⟩ : ByteArray), .slice none 0 0, .int .i64 0, .int .i64 0, .int .i64 0, .slice none 0 0]) ?_ 7 _ rfl; (with_reducible repeat (first | refine blk_drewN ?_ _ | refine blk_drew ?_ | refine blk_alloc ?_ _)); refine blk_put (cs := #[.int .i64 0, .string (⟨#[]⟩ : ByteArray), .string (⟨#[]⟩ : ByteArray), .slice none 0 0, .int .i64 0, .int .i64 0, .int .i64 0, .slice none 0 0]) ?_ 6 _ rfl; (with_reducible repeat (first | refine blk_drewN ?_ _ | refine blk_drew ?_ | refine blk_alloc ?_ _)); refine blk_put (cs := #[.int .i64 0, .string (⟨#[]⟩ : ByteArray), .string (⟨#[]⟩ : ByteArray), .slice none 0 0, .int .i64 0, .int .i64 0, .int .i64 0, .slice none 0 0]) ?_ 5 _ rfl; (with_reducible repeat (first | refine blk_drewN ?_ _ | refine blk_drew ?_ | refine blk_alloc ?_ _)); refine blk_put (cs := #[.int .i64 0, .string (⟨#[]⟩ : ByteArray), .string (⟨#[]⟩ : ByteArray), .slice none 0 0, .int .i64 0, .int .i64 0, .int .i64 0, .slice none 0 0]) ?_ 4 _ rfl; (with_reducible repeat (first | refine blk_drewN ?_ _ | refine blk_drew ?_ | refine blk_alloc ?_ _)); refine blk_put (cs := #[.int .i64 0, .string (⟨#[]⟩ : ByteArray), .string (⟨#[]⟩ : ByteArray), .slice none 0 0, .int .i64 0, .int .i64 0, .int .i64 0, .slice none 0 0]) ?_ 3 _ rfl; (with_reducible repeat (first | refine blk_drewN ?_ _ | refine blk_drew ?_ | refine blk_alloc ?_ _)); refine blk_put (cs := #[.int .i64 0, .string (⟨#[]⟩ : ByteArray), .string (⟨#[]⟩ : ByteArray), .slice none 0 0, .int .i64 0, .int .i64 0, .int .i64 0, .slice none 0 0]) ?_ 2 _ rfl; (with_reducible repeat (first | refine blk_drewN ?_ _ | refine blk_drew ?_ | refine blk_alloc ?_ _)); refine blk_put (cs := #[.int .i64 0, .string (⟨#[]⟩ : ByteArray), .string (⟨#[]⟩ : ByteArray), .slice none 0 0, .int .i64 0, .int .i64 0, .int .i64 0, .slice none 0 0]) ?_ 1 _ rfl; (with_reducible repeat (first | refine blk_drewN ?_ _ | refine blk_drew ?_ | refine blk_alloc ?_ _)); refine blk_put (cs := #[.int .i64 0, .string (⟨#[]⟩ : ByteArray), .string (⟨#[]⟩ : ByteArray), .slice none 0 0, .int .i64 0, .int .i64 0, .int .i64 0, .slice none 0 0]) ?_ 0 _ rfl; (with_reducible repeat (first | refine blk_drewN ?_ _ | refine blk_drew ?_ | refine blk_alloc ?_ _)); exact BK417.out) Try.underlying37 rfl (by kernel_rfl)) rfl ?_
           exact ⟨_, _, by first | rfl | (simp [errW_none, errW_some] <;> rfl) | (simp only [← hji14]; first | rfl | (simp [errW_none, errW_some] <;> rfl)) | (simp [*, errW_none, errW_some] <;> rfl), by first | exact Kd.R_nil _ _ _ _ _ | exact Kd.N_nil _ _ _ _ _ | exact Kd.V_nil _ _ _ _ _ | exact Kd.Q_nil _ _ _ _ _ | exact Kd.S_nil _ _ _ _ _, by first | exact Kd.R_nil _ _ _ _ _ | exact Kd.N_nil _ _ _ _ _ | exact Kd.V_nil _ _ _ _ _ | exact Kd.Q_nil _ _ _ _ _ | exact Kd.S_nil _ _ _ _ _, hs_⟩
          ·
           replace c55 := Bool.eq_false_iff.mpr c55
           subst c55
           (try rw [if_neg (show ¬ (false = true) by decide)] at H)
           replace H := Option.bind_eq_some_iff.mp H
           obtain ⟨t480, A750, H⟩ := H
           (try dsimp only at H)
           have A75 := Aside0.mk A750
           clear A750
           obtain ⟨Ao99, co99, eo99⟩ := Kd.R_slice HO_428003.out
           (first | subst eo99 | (injection eo99 with f1_ f2_ f3_; have f4_ := f1_.symm; have f5_ := f3_.symm; clear f1_ f2_ f3_; subst f4_; subst f5_))
           by_cases c76 : t480 = 0
           ·
            rw [if_pos c76] at H
            have c76b0 : (t480 == 0) = true := beq_iff_eq.mpr c76
            have c76b1 : (t480 != 0) = false := bne_eq_false_iff_eq.mpr c76
            clear c76
            replace H := Option.bind_eq_some_iff.mp H
            obtain ⟨t481, A770, H⟩ := H
            (try dsimp only at H)
            have A77 := Aside0.mk A770
            clear A770
            (try simp only [c76b0, c76b1])
            by_cases c78 : 0 ≤ t419
            case neg => rw [if_neg c78] at H; exact absurd H (by simp)
            rw [if_pos c78] at H
            have c78b0 := eq_true c78
            have c78b1 : decide (0 ≤ t419) = true := decide_eq_true c78
            clear c78
            (try simp only [c78b0, c78b1])
            by_cases c79 : t419 ≤ (l0.length : Int)
            case neg => rw [if_neg c79] at H; exact absurd H (by simp)
            rw [if_pos c79] at H
            have c79b0 := eq_true c79
            have c79b1 : decide (t419 ≤ (l0.length : Int)) = true := decide_eq_true c79
            clear c79
            replace H := Option.bind_eq_some_iff.mp H
            obtain ⟨t485, A800, H⟩ := H
            (try dsimp only at H)
            have A80 := Aside0.mk A800
            clear A800
            (try simp only [c79b0, c79b1])
            obtain ⟨i0102, hi0102, _, hsz102, _⟩ := info_parts info5
            obtain ⟨hcut102, hA102, hC102⟩ := print_take_of (P := Try.prog) (Value.int .u8) 0 24 5 .i64 Try.underlying24 hi0102 hsz102 A0 c0 l0 t419 (od_) (od_) HC0.out
            have HR484 := Aside0.mk (Kd.C_of_reads (h1 := fun _ => rfl) (hA102 _ (Kd.reads_of_C HR0.out)))
            have HC484 := Aside0.mk hC102
            clear hA102 hC102 hi0102 hsz102
            refine start_ (n := 18) (S := fun w' => w'.cell? ⟨gb418, 0, none⟩ = some (.slice AB479 t474.length cB479) ∧ w'.cell? ⟨gb418, 1, none⟩ = some (.bool false) ∧ w'.cell? ⟨gb427, 0, none⟩ = some (.int .i64 t424) ∧ w'.cell? ⟨gb427, 1, none⟩ = some (.string (strOfNums t431)) ∧ w'.cell? ⟨gb427, 2, none⟩ = some (.string (strOfNums t440)) ∧ w'.cell? ⟨gb427, 3, none⟩ = some (.slice Ao99 x428003_2.length co99) ∧ w'.cell? ⟨gb427, 4, none⟩ = some (.int .i64 t455) ∧ w'.cell? ⟨gb427, 5, none⟩ = some (.int .i64 t458) ∧ w'.cell? ⟨gb427, 6, none⟩ = some (.int .i64 t461) ∧ w'.cell? ⟨gb427, 7, none⟩ = some (.slice Ao69 y476.length co69)) (ds := []) #[false, false, false, false, false, false, false, false, false, false, false, false, false, false, false, false, false, false] (by kernel_rfl) rfl rfl ⟨(blk_cell BK418.out 0).trans rfl, (blk_cell BK418.out 1).trans rfl, (blk_cell BK427.out 0).trans rfl, (blk_cell BK427.out 1).trans rfl, (blk_cell BK427.out 2).trans rfl, (blk_cell BK427.out 3).trans rfl, (blk_cell BK427.out 4).trans rfl, (blk_cell BK427.out 5).trans rfl, (blk_cell BK427.out 6).trans rfl, (blk_cell BK427.out 7).trans rfl⟩ (fun hHeld => ?_); refine with_tabW impl_readOp.tab17 impl_readOp.bits17 (fun HT_ HW_ => ?_)
            generalize w71.drew = w98 at HO_428003 HO478 BK417 BK427 BK418 HB hHeld ⊢
            refine pu_ (i := 0) (N := some 73) (v := ?_) (a' := ?_) rfl rfl (any_of HT_.out (by kernel_rfl)) (fun _ _ _ h => h) (Or.inl ⟨by rfl, ?_⟩) ?_ ?_; rotate_left
            · intro w'; go_simp; all_goals (first | with_reducible rfl | (simp [Instr.field, go_sem]; rfl))
            rotate_left
            · simp only [Act.put, List.setIfInBounds_toArray, List.set_cons_zero, List.set_cons_succ, i64_w, i32_w]; rfl
            refine pu_ (i := 1) (N := some 74) (v := ?_) (a' := ?_) rfl rfl (any_of HT_.out (by kernel_rfl)) (fun _ _ _ h => h) (Or.inl ⟨by rfl, ?_⟩) ?_ ?_; rotate_left
            · intro w'; go_simp; all_goals (first | with_reducible rfl | (simp [Instr.field, go_sem]; rfl))
            rotate_left
            · simp only [Act.put, List.setIfInBounds_toArray, List.set_cons_zero, List.set_cons_succ, i64_w, i32_w]; rfl
            refine pu_ (i := 2) (N := some 75) (v := ?_) (a' := ?_) rfl rfl (any_of HT_.out (by kernel_rfl)) (fun _ _ _ h => h) (Or.inl ⟨by rfl, ?_⟩) ?_ ?_; rotate_left
            · intro w'; go_simp; all_goals (first | with_reducible rfl | (simp [Instr.field, go_sem]; rfl))
            rotate_left
            · simp only [Act.put, List.setIfInBounds_toArray, List.set_cons_zero, List.set_cons_succ, i64_w, i32_w]; rfl
            refine ta_ (i := 3) (N := some 76) (v := ?_) (a' := ?_) rfl rfl (take_ofW HT_.out HW_.out (by kernel_rfl)) (fun _ _ _ h => h) (Or.inl ⟨by rfl, ?_⟩) hHeld ?_ ?_; rotate_left
            · rintro w' ⟨s0, s1, s2, s3, s4, s5, s6, s7, s8, s9⟩; go_simp; all_goals (first | with_reducible rfl | (simp [Instr.field, go_sem]; rfl))
            rotate_left
            · simp only [Act.put, List.setIfInBounds_toArray, List.set_cons_zero, List.set_cons_succ, i64_w, i32_w]; rfl
            refine pu_ (i := 4) (N := some 77) (v := ?_) (a' := ?_) rfl rfl (any_of HT_.out (by kernel_rfl)) (fun _ _ _ h => h) (Or.inl ⟨by rfl, ?_⟩) ?_ ?_; rotate_left
            · intro w'; go_simp; all_goals (first | with_reducible rfl | (simp [Instr.field, go_sem]; rfl))
            rotate_left
            · simp only [Act.put, List.setIfInBounds_toArray, List.set_cons_zero, List.set_cons_succ, i64_w, i32_w]; rfl
            refine ta_ (i := 5) (N := some 78) (v := ?_) (a' := ?_) rfl rfl (take_ofW HT_.out HW_.out (by kernel_rfl)) (fun _ _ _ h => h) (Or.inl ⟨by rfl, ?_⟩) hHeld ?_ ?_; rotate_left
            · rintro w' ⟨s0, s1, s2, s3, s4, s5, s6, s7, s8, s9⟩; go_simp; all_goals (first | with_reducible rfl | (simp [Instr.field, go_sem]; rfl))
            rotate_left
            · simp only [Act.put, List.setIfInBounds_toArray, List.set_cons_zero, List.set_cons_succ, i64_w, i32_w]; rfl
            refine on_ (i := 6) (N := some 79) rfl rfl (one_of HT_.out (by kernel_rfl)) (by decide) (fun K hK => ?_)
            refine goes_ Try.func44 (by kernel_rfl) rfl #[.agg #[.int .i64 t424, .string (strOfNums t431), .string (strOfNums t440), .slice Ao99 x428003_2.length co99, .int .i64 t455, .int .i64 t458, .int .i64 t461, .slice Ao69 y476.length co69]] (by rfl) rfl rfl (by (try simp only [List.map_toArray, List.map_cons, List.map_nil]); first | done | rfl | (simp only [List.length_drop, List.length_take]; rfl)) ?_
            with_reducible refine (impl_OpFault.calls k2 t424 (strOfNums t431) (strOfNums t440) _ _ x428003_2 t455 t458 t461 _ _ y476 t480 _ ?side1 ?side2 ?side3 ?side4 A75.out).mono ?_
            (case side1 => exact C_up (Kd.R_reads' HO_428003.out).2.2)
            (case side2 => exact (Kd.R_reads' HO_428003.out).2.1)
            (case side3 => exact C_up (Kd.R_reads' HO478.out).2.2)
            (case side4 => exact (Kd.R_reads' HO478.out).2.1)
            rintro e w100 ⟨rfl, hb⟩
            refine ⟨_, rfl, ?_⟩
            replace HO_428003 := Aside0.mk (Kd.R_below (R_up HO_428003.out) hb)
            replace HO478 := Aside0.mk (Kd.R_below (R_up HO478.out) hb)
            replace BK417 := Aside0.mk (blk_below (g := gb417) (o := .cells #[.int .i64 0, .string (⟨#[]⟩ : ByteArray), .string (⟨#[]⟩ : ByteArray), .slice none 0 0, .int .i64 0, .int .i64 0, .int .i64 0, .slice none 0 0] 37 (0, 0)) (blk_up BK417.out) hb)
            replace BK427 := Aside0.mk (blk_below (g := gb427) (blk_up BK427.out) hb)
            replace BK418 := Aside0.mk (blk_below (g := gb418) (blk_up BK418.out) hb)
            replace HB := Aside0.mk (below_step (hs_) hb)
            (try clear hb)
            refine hK.out _ _ ⟨(blk_cell BK418.out 0).trans rfl, (blk_cell BK418.out 1).trans rfl, (blk_cell BK427.out 0).trans rfl, (blk_cell BK427.out 1).trans rfl, (blk_cell BK427.out 2).trans rfl, (blk_cell BK427.out 3).trans rfl, (blk_cell BK427.out 4).trans rfl, (blk_cell BK427.out 5).trans rfl, (blk_cell BK427.out 6).trans rfl, (blk_cell BK427.out 7).trans rfl⟩ (fun hHeld => ?_)
            clear hK K
            refine norm_ (a' := ?_) ?_ ?_
            rotate_left
            · show Act.put _ (some 79) _ = _
              simp only [Act.put, List.setIfInBounds_toArray, List.set_cons_zero, List.set_cons_succ, i64_w, i32_w]
              rfl
            refine pu_ (i := 7) (N := some 80) (v := ?_) (a' := ?_) rfl rfl (any_of HT_.out (by kernel_rfl)) (fun _ _ _ h => h) (Or.inl ⟨by rfl, ?_⟩) ?_ ?_; rotate_left
            · intro w'; go_simp; all_goals (first | with_reducible rfl | (simp [Instr.field, go_sem]; rfl))
            rotate_left
            · simp only [Act.put, List.setIfInBounds_toArray, List.set_cons_zero, List.set_cons_succ, i64_w, i32_w]; rfl
            refine pu_ (i := 8) (N := some 81) (v := ?_) (a' := ?_) rfl rfl (any_of HT_.out (by kernel_rfl)) (fun _ _ _ h => h) (Or.inl ⟨by rfl, ?_⟩) ?_ ?_; rotate_left
            · intro w'; go_simp; all_goals (first | with_reducible rfl | (simp [Instr.field, go_sem]; rfl))
            rotate_left
            · simp only [Act.put, List.setIfInBounds_toArray, List.set_cons_zero, List.set_cons_succ, i64_w, i32_w]; rfl
            refine pu_ (i := 9) (N := some 82) (v := ?_) (a' := ?_) rfl rfl (any_of HT_.out (by kernel_rfl)) (fun _ _ _ h => h) (Or.inl ⟨by rfl, ?_⟩) ?_ ?_; rotate_left
            · intro w'; go_simp; all_goals (first | with_reducible rfl | (simp [Instr.field, go_sem]; rfl))
            rotate_left
            · simp only [Act.put, List.setIfInBounds_toArray, List.set_cons_zero, List.set_cons_succ, i64_w, i32_w]; rfl
            refine pu_ (i := 12) (N := some 85) (v := ?_) (a' := ?_) rfl rfl (any_of HT_.out (by kernel_rfl)) (fun _ _ _ h => h) (Or.inl ⟨by rfl, ?_⟩) ?_ ?_; rotate_left
            · intro w'; go_simp; all_goals (first | with_reducible rfl | (simp [Instr.field, go_sem]; rfl))
            rotate_left
            · simp only [Act.put, List.setIfInBounds_toArray, List.set_cons_zero, List.set_cons_succ, i64_w, i32_w]; rfl
            refine pu_ (i := 13) (N := some 86) (v := ?_) (a' := ?_) rfl rfl (any_of HT_.out (by kernel_rfl)) (fun _ _ _ h => h) (Or.inl ⟨by rfl, ?_⟩) ?_ ?_; rotate_left
            · intro w'; go_simp; all_goals (first | with_reducible rfl | (simp [Instr.field, go_sem]; rfl))
            rotate_left
            · simp only [Act.put, List.setIfInBounds_toArray, List.set_cons_zero, List.set_cons_succ, i64_w, i32_w]; rfl
            refine pu_ (i := 14) (N := some 87) (v := ?_) (a' := ?_) rfl rfl (any_of HT_.out (by kernel_rfl)) (fun _ _ _ h => h) (Or.inl ⟨by rfl, ?_⟩) ?_ ?_; rotate_left
            · intro w'; go_simp; all_goals (first | with_reducible rfl | (simp [Instr.field, go_sem]; rfl))
            rotate_left
            · simp only [Act.put, List.setIfInBounds_toArray, List.set_cons_zero, List.set_cons_succ, i64_w, i32_w]; rfl
            refine ta_ (i := 10) (N := some 83) (v := ?_) (a' := ?_) rfl rfl (take_ofW HT_.out HW_.out (by kernel_rfl)) (fun _ _ _ h => h) (Or.inl ⟨by rfl, ?_⟩) hHeld ?_ ?_; rotate_left
            · rintro w' ⟨s0, s1, s2, s3, s4, s5, s6, s7, s8, s9⟩; go_simp; all_goals (first | with_reducible rfl | (simp [Instr.field, go_sem]; rfl))
            rotate_left
            · simp only [Act.put, List.setIfInBounds_toArray, List.set_cons_zero, List.set_cons_succ, i64_w, i32_w]; rfl
            refine on_ (i := 11) (N := some 84) rfl rfl (one_of HT_.out (by kernel_rfl)) (by decide) (fun K hK => ?_)
            refine goes_ Try.func61 (by kernel_rfl) rfl #[.agg #[.int .i64 t424, .string (strOfNums t431), .string (strOfNums t440), .slice Ao99 x428003_2.length co99, .int .i64 t455, .int .i64 t458, .int .i64 t461, .slice Ao69 y476.length co69]] (by rfl) rfl rfl (by (try simp only [List.map_toArray, List.map_cons, List.map_nil]); first | done | rfl | (simp only [List.length_drop, List.length_take]; rfl)) ?_
            with_reducible refine (impl_packed.calls k2 t424 (strOfNums t431) (strOfNums t440) _ _ x428003_2 t455 t458 t461 _ _ y476 t481 _ ?side1 ?side2 ?side3 ?side4 A77.out).mono ?_
            (case side1 => exact C_up (Kd.R_reads' HO_428003.out).2.2)
            (case side2 => exact (Kd.R_reads' HO_428003.out).2.1)
            (case side3 => exact C_up (Kd.R_reads' HO478.out).2.2)
            (case side4 => exact (Kd.R_reads' HO478.out).2.1)
            rintro e w101 ⟨v482, rfl, ho0, hb⟩
            refine ⟨_, rfl, ?_⟩
            have n0_ := Aside0.mk (Kd.R_below (R_up HO_428003.out) hb)
            have n1_ := Aside0.mk (Kd.R_elder' (R_up HO478.out) (Kd.R_base ho0) hb)
            have n2_ := Aside0.mk (Kd.R_lower (Kd.R_new' ho0 (Kd.R_lt (R_up HO478.out))) (below_size (hs_)))
            have n3_ := Aside0.mk (blk_below (g := gb417) (o := .cells #[.int .i64 0, .string (⟨#[]⟩ : ByteArray), .string (⟨#[]⟩ : ByteArray), .slice none 0 0, .int .i64 0, .int .i64 0, .int .i64 0, .slice none 0 0] 37 (0, 0)) (blk_up BK417.out) hb)
            have n4_ := Aside0.mk (blk_below (g := gb427) (blk_up BK427.out) hb)
            have n5_ := Aside0.mk (blk_below (g := gb418) (blk_up BK418.out) hb)
            have n6_ := Aside0.mk (below_step (hs_) hb)
            clear HO_428003
            clear HO478
            clear BK417
            clear BK427
            clear BK418
            clear HB
            have HO_428003 := n0_
            have HO478 := n1_
            have HO483 := n2_
            have BK417 := n3_
            have BK427 := n4_
            have BK418 := n5_
            have HB := n6_
            clear n0_ n1_ n2_ n3_ n4_ n5_ n6_
            (try clear hb)
            (try clear hb2)
            (try clear hk)
            (try clear hi)
            (try clear ho0)
            obtain ⟨Ao103, co103, eo103⟩ := Kd.R_slice HO483.out
            (first | subst eo103 | (injection eo103 with f1_ f2_ f3_; have f4_ := f1_.symm; have f5_ := f3_.symm; clear f1_ f2_ f3_; subst f4_; subst f5_))
            refine hK.out _ _ ⟨(blk_cell BK418.out 0).trans rfl, (blk_cell BK418.out 1).trans rfl, (blk_cell BK427.out 0).trans rfl, (blk_cell BK427.out 1).trans rfl, (blk_cell BK427.out 2).trans rfl, (blk_cell BK427.out 3).trans rfl, (blk_cell BK427.out 4).trans rfl, (blk_cell BK427.out 5).trans rfl, (blk_cell BK427.out 6).trans rfl, (blk_cell BK427.out 7).trans rfl⟩ (fun hHeld => ?_)
            clear hK K
            refine norm_ (a' := ?_) ?_ ?_
            rotate_left
            · show Act.put _ (some 84) _ = _
              simp only [Act.put, List.setIfInBounds_toArray, List.set_cons_zero, List.set_cons_succ, i64_w, i32_w]
              rfl
            refine on_ (i := 15) (N := some 88) rfl rfl (one_of HT_.out (by kernel_rfl)) (by decide) (fun K hK => ?_)
            refine goes_ Try.func91 (by kernel_rfl) rfl #[.slice Ao103 t481.length co103, .slice A0 (l0.take (t419 : Int).toNat).length c0] (by rfl) rfl rfl (by (try simp only [List.map_toArray, List.map_cons, List.map_nil]); first | done | (rw [show (l0.take (t419 : Int).toNat).length = t419.toNat from (by rw [List.length_take]; have h_ : (t419 : Int) ≤ (l0.length : Int) := od_; omega)] <;> rfl) | rfl | (simp only [List.length_drop, List.length_take]; rfl)) ?_
            with_reducible refine (bytes_Equal.calls _ _ t481 _ _ (l0.take (t419 : Int).toNat) t485 _ ?side1 ?side2 ?side3 ?side4 A80.out).mono ?_
            (case side1 => exact C_up (Kd.R_reads' HO483.out).2.2)
            (case side2 => exact (Kd.R_reads' HO483.out).2.1)
            (case side3 => exact C_up (Kd.C_below HR484.out HB.out))
            (case side4 => exact HC484.out)
            rintro e w' ⟨rfl, ⟨nd, rfl⟩⟩
            refine ⟨_, rfl, ?_⟩
            refine hK.out _ _ ⟨(blk_cell BK418.out 0).trans rfl, (blk_cell BK418.out 1).trans rfl, (blk_cell BK427.out 0).trans rfl, (blk_cell BK427.out 1).trans rfl, (blk_cell BK427.out 2).trans rfl, (blk_cell BK427.out 3).trans rfl, (blk_cell BK427.out 4).trans rfl, (blk_cell BK427.out 5).trans rfl, (blk_cell BK427.out 6).trans rfl, (blk_cell BK427.out 7).trans rfl⟩ (fun hHeld => ?_)
            clear hK K
            refine norm_ (a' := ?_) ?_ ?_
            rotate_left
            · show Act.put _ (some 88) _ = _
              simp only [Act.put, List.setIfInBounds_toArray, List.set_cons_zero, List.set_cons_succ, i64_w, i32_w]
              rfl
            refine pu_ (i := 16) (N := some 89) (v := ?_) (a' := ?_) rfl rfl (any_of HT_.out (by kernel_rfl)) (fun _ _ _ h => h) (Or.inl ⟨by rfl, ?_⟩) ?_ ?_; rotate_left
            · intro w'; go_simp; all_goals (first | with_reducible rfl | (simp [Instr.field, go_sem]; rfl))
            rotate_left
            · simp only [Act.put, List.setIfInBounds_toArray, List.set_cons_zero, List.set_cons_succ, i64_w, i32_w]; rfl
            refine pu_ (i := 17) (N := some 90) (v := ?_) (a' := ?_) rfl rfl (any_of HT_.out (by kernel_rfl)) (fun _ _ _ h => h) (Or.inl ⟨by rfl, ?_⟩) ?_ ?_; rotate_left
            · intro w'; go_simp; all_goals (first | with_reducible rfl | (simp [Instr.field, go_sem]; rfl))
            rotate_left
            · simp only [Act.put, List.setIfInBounds_toArray, List.set_cons_zero, List.set_cons_succ, i64_w, i32_w]; rfl
            refine done_ (done_of HT_.out (by kernel_rfl)) ?_
            by_cases c81 : t485 = true
            ·
             subst c81
             (try rw [if_pos rfl] at H)
             simp only [Option.some.injEq, Prod.mk.injEq] at H
             obtain ⟨rfl, rfl, rfl, rfl, rfl, rfl, rfl, rfl, rfl⟩ := H
             obtain ⟨_, _, _, _, _, _, _, _⟩ := blk_cells8 BK427.out
             obtain ⟨_, _, _, _, _, _, _, _⟩ := blk_frozen8 BK427.out
             have hnb105 := NB417_418.out
             have hnc105 := NB418_417.out
             obtain ⟨_, _, _, _, _, _, _, _⟩ := blk_cells8 BK417.out
             obtain ⟨_, _, _, _, _, _, _, _⟩ := blk_frozen8 BK417.out
             try go_wp2
             refine bodyPost_ret (results_ct rfl _ _ gb417 37 #[.int .i64 t424, .string (strOfNums t431), .string (strOfNums t440), .slice Ao99 x428003_2.length co99, .int .i64 t455, .int .i64 t458, .int .i64 t461, .slice Ao69 y476.length co69] (0, 0) _ rfl (by (with_reducible repeat (first | refine blk_drewN ?_ _ | refine blk_drew ?_ | refine blk_alloc ?_ _)); refine blk_put (cs := #[.int .i64 t424, .string (strOfNums t431), .string (strOfNums t440), .slice Ao99 x428003_2.length co99, .int .i64 t455, .int .i64 t458, .int .i64 t461, .slice none 0 0]) ?_ 7 _ rfl; (with_reducible repeat (first | refine blk_drewN ?_ _ | refine blk_drew ?_ | refine blk_alloc ?_ _)); refine blk_put (cs := #[.int .i64 t424, .string (strOfNums t431), .string (strOfNums t440), .slice Ao99 x428003_2.length co99, .int .i64 t455, .int .i64 t458, .int .i64 0, .slice none 0 0]) ?_ 6 _ rfl; (with_reducible repeat (first | refine blk_drewN ?_ _ | refine blk_drew ?_ | refine blk_alloc ?_ _)); refine blk_put (cs := #[.int .i64 t424, .string (strOfNums t431), .string (strOfNums t440), .slice Ao99 x428003_2.length co99, .int .i64 t455, .int .i64 0, .int .i64 0, .slice none 0 0]) ?_ 5 _ rfl; (with_reducible repeat (first | refine blk_drewN ?_ _ | refine blk_drew ?_ | refine blk_alloc ?_ _)); refine blk_put (cs := #[.int .i64 t424, .string (strOfNums t431), .string (strOfNums t440), .slice Ao99 x428003_2.length co99, .int .i64 0, .int .i64 0, .int .i64 0, .slice none 0 0]) ?_ 4 _ rfl; (with_reducible repeat (first | refine blk_drewN ?_ _ | refine blk_drew ?_ | refine blk_alloc ?_ _)); refine blk_put (cs := #[.int .i64 t424, .string (strOfNums t431), .string (strOfNums t440), .slice none 0 0, .int .i64 0, .int .i64 0, .int .i64 0, .slice none 0 0]) ?_ 3 _ rfl; (with_reducible repeat (first | refine blk_drewN ?_ _ | refine blk_drew ?_ | refine blk_alloc ?_ _)); refine blk_put (cs := #[.int .i64 t424, .string (strOfNums t431), .string (⟨#[]⟩ : ByteArray), .slice none 0 0, .int .i64 0, .int .i64 0, .int .i64 0, .slice none 0 0]) ?_ 2 _ rfl; (with_reducible repeat (first | refine blk_drewN ?_ _ | refine blk_drew ?_ | refine blk_alloc ?_ _)); refine blk_put (cs := #[.int .i64 t424, .string (⟨#[]⟩ : ByteArray), .string (⟨#[]⟩ : ByteArray), .slice none 0 0, .int .i64 0, .int .i64 0, .int .i64 0, .slice none 0 0]) ?_ 1 _ rfl; (with_reducible repeat (first | refine blk_drewN ?_ _ | refine blk_drew ?_ | refine blk_alloc ?_ _)); refine blk_put (cs := #[.int .i64 0, .string (⟨#[]⟩ : ByteArray), .string (⟨#[]⟩ : ByteArray), .slice none 0 0, .int .i64 0, .int .i64 0, .int .i64 0, .slice none 0 0]) ?_ 0 _ rfl; (with_reducible repeat (first | refine blk_drewN ?_ _ | refine blk_drew ?_ | refine blk_alloc ?_ _)); exact BK417.out) Try.underlying37 rfl (by kernel_rfl)) rfl ?_
             exact ⟨_, _, by first | rfl | (simp [errW_none, errW_some] <;> rfl) | (simp only [← hji14]; first | rfl | (simp [errW_none, errW_some] <;> rfl)) | (simp [*, errW_none, errW_some] <;> rfl), by (with_reducible repeat (first | apply Kd.R_alloc | apply Kd.R_drewN | apply Kd.R_drew)); exact Kd.R_mono (Kd.R_far (p := ⟨gb417, 7, none⟩) (Kd.R_far (p := ⟨gb417, 6, none⟩) (Kd.R_far (p := ⟨gb417, 5, none⟩) (Kd.R_far (p := ⟨gb417, 4, none⟩) (Kd.R_far (p := ⟨gb417, 3, none⟩) (Kd.R_far (p := ⟨gb417, 2, none⟩) (Kd.R_far (p := ⟨gb417, 1, none⟩) (Kd.R_far (p := ⟨gb417, 0, none⟩) (Kd.R_types HO_428003.out BK417.out (by decide)) (fun _ hk => hk.2) (.int .i64 t424)) (fun _ hk => hk.2) (.string (strOfNums t431))) (fun _ hk => hk.2) (.string (strOfNums t440))) (fun _ hk => hk.2) (.slice Ao99 x428003_2.length co99)) (fun _ hk => hk.2) (.int .i64 t455)) (fun _ hk => hk.2) (.int .i64 t458)) (fun _ hk => hk.2) (.int .i64 t461)) (fun _ hk => hk.2) (.slice Ao69 y476.length co69)) (fun _ hk => trivial), by (with_reducible repeat (first | apply Kd.R_alloc | apply Kd.R_drewN | apply Kd.R_drew)); exact Kd.R_mono (Kd.R_far (p := ⟨gb417, 7, none⟩) (Kd.R_far (p := ⟨gb417, 6, none⟩) (Kd.R_far (p := ⟨gb417, 5, none⟩) (Kd.R_far (p := ⟨gb417, 4, none⟩) (Kd.R_far (p := ⟨gb417, 3, none⟩) (Kd.R_far (p := ⟨gb417, 2, none⟩) (Kd.R_far (p := ⟨gb417, 1, none⟩) (Kd.R_far (p := ⟨gb417, 0, none⟩) (Kd.R_types HO478.out BK417.out (by decide)) (fun _ hk => hk.2) (.int .i64 t424)) (fun _ hk => hk.2) (.string (strOfNums t431))) (fun _ hk => hk.2) (.string (strOfNums t440))) (fun _ hk => hk.2) (.slice Ao99 x428003_2.length co99)) (fun _ hk => hk.2) (.int .i64 t455)) (fun _ hk => hk.2) (.int .i64 t458)) (fun _ hk => hk.2) (.int .i64 t461)) (fun _ hk => hk.2) (.slice Ao69 y476.length co69)) (fun _ hk => trivial), hs_⟩
            ·
             replace c81 := Bool.eq_false_iff.mpr c81
             subst c81
             (try rw [if_neg (show ¬ (false = true) by decide)] at H)
             simp only [Option.some.injEq, Prod.mk.injEq] at H
             obtain ⟨rfl, rfl, rfl, rfl, rfl, rfl, rfl, rfl, rfl⟩ := H
             have hnb129 := NB417_418.out
             have hnc129 := NB418_417.out
             obtain ⟨_, _, _, _, _, _, _, _⟩ := blk_cells8 BK417.out
             obtain ⟨_, _, _, _, _, _, _, _⟩ := blk_frozen8 BK417.out
             try go_wp2
             refine bodyPost_ret (results_ct rfl _ _ gb417 37 #[.int .i64 0, .string (⟨#[]⟩ : ByteArray), .string (⟨#[]⟩ : ByteArray), .slice none 0 0, .int .i64 0, .int .i64 0, .int .i64 0, .slice none 0 0] (0, 0) _ rfl (by (with_reducible repeat (first | refine blk_drewN ?_ _ | refine blk_drew ?_ | refine blk_alloc ?_ _)); refine blk_put (cs := #[.int .i64 0, .string (⟨#[]⟩ : ByteArray), .string (⟨#[]⟩ : ByteArray), .slice none 0 0, .int .i64 0, .int .i64 0, .int .i64 0, .slice none 0 0]) ?_ 7 _ rfl; (with_reducible repeat (first | refine blk_drewN ?_ _ | refine blk_drew ?_ | refine blk_alloc ?_ _)); refine blk_put (cs := #[.int .i64 0, .string (⟨#[]⟩ : ByteArray), .string (⟨#[]⟩ : ByteArray), .slice none 0 0, .int .i64 0, .int .i64 0, .int .i64 0, .slice none 0 0]) ?_ 6 _ rfl; (with_reducible repeat (first | refine blk_drewN ?_ _ | refine blk_drew ?_ | refine blk_alloc ?_ _)); refine blk_put (cs := #[.int .i64 0, .string (⟨#[]⟩ : ByteArray), .string (⟨#[]⟩ : ByteArray), .slice none 0 0, .int .i64 0, .int .i64 0, .int .i64 0, .slice none 0 0]) ?_ 5 _ rfl; (with_reducible repeat (first | refine blk_drewN ?_ _ | refine blk_drew ?_ | refine blk_alloc ?_ _)); refine blk_put (cs := #[.int .i64 0, .string (⟨#[]⟩ : ByteArray), .string (⟨#[]⟩ : ByteArray), .slice none 0 0, .int .i64 0, .int .i64 0, .int .i64 0, .slice none 0 0]) ?_ 4 _ rfl; (with_reducible repeat (first | refine blk_drewN ?_ _ | refine blk_drew ?_ | refine blk_alloc ?_ _)); refine blk_put (cs := #[.int .i64 0, .string (⟨#[]⟩ : ByteArray), .string (⟨#[]⟩ : ByteArray), .slice none 0 0, .int .i64 0, .int .i64 0, .int .i64 0, .slice none 0 0]) ?_ 3 _ rfl; (with_reducible repeat (first | refine blk_drewN ?_ _ | refine blk_drew ?_ | refine blk_alloc ?_ _)); refine blk_put (cs := #[.int .i64 0, .string (⟨#[]⟩ : ByteArray), .string (⟨#[]⟩ : ByteArray), .slice none 0 0, .int .i64 0, .int .i64 0, .int .i64 0, .slice none 0 0]) ?_ 2 _ rfl; (with_reducible repeat (first | refine blk_drewN ?_ _ | refine blk_drew ?_ | refine blk_alloc ?_ _)); refine blk_put (cs := #[.int .i64 0, .string (⟨#[]⟩ : ByteArray), .string (⟨#[]⟩ : ByteArray), .slice none 0 0, .int .i64 0, .int .i64 0, .int .i64 0, .slice none 0 0]) ?_ 1 _ rfl; (with_reducible repeat (first | refine blk_drewN ?_ _ | refine blk_drew ?_ | refine blk_alloc ?_ _)); refine blk_put (cs := #[.int .i64 0, .string (⟨#[]⟩ : ByteArray), .string (⟨#[]⟩ : ByteArray), .slice none 0 0, .int .i64 0, .int .i64 0, .int .i64 0, .slice none 0 0]) ?_ 0 _ rfl; (with_reducible repeat (first | refine blk_drewN ?_ _ | refine blk_drew ?_ | refine blk_alloc ?_ _)); exact BK417.out) Try.underlying37 rfl (by kernel_rfl)) rfl ?_
             exact ⟨_, _, by first | rfl | (simp [errW_none, errW_some] <;> rfl) | (simp only [← hji14]; first | rfl | (simp [errW_none, errW_some] <;> rfl)) | (simp [*, errW_none, errW_some] <;> rfl), by first | exact Kd.R_nil _ _ _ _ _ | exact Kd.N_nil _ _ _ _ _ | exact Kd.V_nil _ _ _ _ _ | exact Kd.Q_nil _ _ _ _ _ | exact Kd.S_nil _ _ _ _ _, by first | exact Kd.R_nil _ _ _ _ _ | exact Kd.N_nil _ _ _ _ _ | exact Kd.V_nil _ _ _ _ _ | exact Kd.Q_nil _ _ _ _ _ | exact Kd.S_nil _ _ _ _ _, hs_⟩
           ·
            rw [if_neg c76] at H
            have c76b0 : (t480 == 0) = false := beq_eq_false_iff_ne.mpr c76
            have c76b1 : (t480 != 0) = true := bne_iff_ne.mpr c76
            simp only [Option.some.injEq, Prod.mk.injEq] at H
            obtain ⟨rfl, rfl, rfl, rfl, rfl, rfl, rfl, rfl, rfl⟩ := H
            (try simp only [c76b0, c76b1])
            refine start_ (n := 18) (S := fun w' => w'.cell? ⟨gb418, 0, none⟩ = some (.slice AB479 t474.length cB479) ∧ w'.cell? ⟨gb418, 1, none⟩ = some (.bool false) ∧ w'.cell? ⟨gb427, 0, none⟩ = some (.int .i64 t424) ∧ w'.cell? ⟨gb427, 1, none⟩ = some (.string (strOfNums t431)) ∧ w'.cell? ⟨gb427, 2, none⟩ = some (.string (strOfNums t440)) ∧ w'.cell? ⟨gb427, 3, none⟩ = some (.slice Ao99 x428003_2.length co99) ∧ w'.cell? ⟨gb427, 4, none⟩ = some (.int .i64 t455) ∧ w'.cell? ⟨gb427, 5, none⟩ = some (.int .i64 t458) ∧ w'.cell? ⟨gb427, 6, none⟩ = some (.int .i64 t461) ∧ w'.cell? ⟨gb427, 7, none⟩ = some (.slice Ao69 y476.length co69)) (ds := []) #[false, false, false, false, false, false, false, false, false, false, false, false, false, false, false, false, false, false] (by kernel_rfl) rfl rfl ⟨(blk_cell BK418.out 0).trans rfl, (blk_cell BK418.out 1).trans rfl, (blk_cell BK427.out 0).trans rfl, (blk_cell BK427.out 1).trans rfl, (blk_cell BK427.out 2).trans rfl, (blk_cell BK427.out 3).trans rfl, (blk_cell BK427.out 4).trans rfl, (blk_cell BK427.out 5).trans rfl, (blk_cell BK427.out 6).trans rfl, (blk_cell BK427.out 7).trans rfl⟩ (fun hHeld => ?_); refine with_tabW impl_readOp.tab17 impl_readOp.bits17 (fun HT_ HW_ => ?_)
            generalize w71.drew = w147 at HO_428003 HO478 BK417 BK427 BK418 HB hHeld ⊢
            refine pu_ (i := 0) (N := some 73) (v := ?_) (a' := ?_) rfl rfl (any_of HT_.out (by kernel_rfl)) (fun _ _ _ h => h) (Or.inl ⟨by rfl, ?_⟩) ?_ ?_; rotate_left
            · intro w'; go_simp; all_goals (first | with_reducible rfl | (simp [Instr.field, go_sem]; rfl))
            rotate_left
            · simp only [Act.put, List.setIfInBounds_toArray, List.set_cons_zero, List.set_cons_succ, i64_w, i32_w]; rfl
            refine pu_ (i := 1) (N := some 74) (v := ?_) (a' := ?_) rfl rfl (any_of HT_.out (by kernel_rfl)) (fun _ _ _ h => h) (Or.inl ⟨by rfl, ?_⟩) ?_ ?_; rotate_left
            · intro w'; go_simp; all_goals (first | with_reducible rfl | (simp [Instr.field, go_sem]; rfl))
            rotate_left
            · simp only [Act.put, List.setIfInBounds_toArray, List.set_cons_zero, List.set_cons_succ, i64_w, i32_w]; rfl
            refine pu_ (i := 2) (N := some 75) (v := ?_) (a' := ?_) rfl rfl (any_of HT_.out (by kernel_rfl)) (fun _ _ _ h => h) (Or.inl ⟨by rfl, ?_⟩) ?_ ?_; rotate_left
            · intro w'; go_simp; all_goals (first | with_reducible rfl | (simp [Instr.field, go_sem]; rfl))
            rotate_left
            · simp only [Act.put, List.setIfInBounds_toArray, List.set_cons_zero, List.set_cons_succ, i64_w, i32_w]; rfl
            refine ta_ (i := 3) (N := some 76) (v := ?_) (a' := ?_) rfl rfl (take_ofW HT_.out HW_.out (by kernel_rfl)) (fun _ _ _ h => h) (Or.inl ⟨by rfl, ?_⟩) hHeld ?_ ?_; rotate_left
            · rintro w' ⟨s0, s1, s2, s3, s4, s5, s6, s7, s8, s9⟩; go_simp; all_goals (first | with_reducible rfl | (simp [Instr.field, go_sem]; rfl))
            rotate_left
            · simp only [Act.put, List.setIfInBounds_toArray, List.set_cons_zero, List.set_cons_succ, i64_w, i32_w]; rfl
            refine pu_ (i := 4) (N := some 77) (v := ?_) (a' := ?_) rfl rfl (any_of HT_.out (by kernel_rfl)) (fun _ _ _ h => h) (Or.inl ⟨by rfl, ?_⟩) ?_ ?_; rotate_left
            · intro w'; go_simp; all_goals (first | with_reducible rfl | (simp [Instr.field, go_sem]; rfl))
            rotate_left
            · simp only [Act.put, List.setIfInBounds_toArray, List.set_cons_zero, List.set_cons_succ, i64_w, i32_w]; rfl
            refine ta_ (i := 5) (N := some 78) (v := ?_) (a' := ?_) rfl rfl (take_ofW HT_.out HW_.out (by kernel_rfl)) (fun _ _ _ h => h) (Or.inl ⟨by rfl, ?_⟩) hHeld ?_ ?_; rotate_left
            · rintro w' ⟨s0, s1, s2, s3, s4, s5, s6, s7, s8, s9⟩; go_simp; all_goals (first | with_reducible rfl | (simp [Instr.field, go_sem]; rfl))
            rotate_left
            · simp only [Act.put, List.setIfInBounds_toArray, List.set_cons_zero, List.set_cons_succ, i64_w, i32_w]; rfl
            refine on_ (i := 6) (N := some 79) rfl rfl (one_of HT_.out (by kernel_rfl)) (by decide) (fun K hK => ?_)
            refine goes_ Try.func44 (by kernel_rfl) rfl #[.agg #[.int .i64 t424, .string (strOfNums t431), .string (strOfNums t440), .slice Ao99 x428003_2.length co99, .int .i64 t455, .int .i64 t458, .int .i64 t461, .slice Ao69 y476.length co69]] (by rfl) rfl rfl (by (try simp only [List.map_toArray, List.map_cons, List.map_nil]); first | done | rfl | (simp only [List.length_drop, List.length_take]; rfl)) ?_
            with_reducible refine (impl_OpFault.calls k2 t424 (strOfNums t431) (strOfNums t440) _ _ x428003_2 t455 t458 t461 _ _ y476 t480 _ ?side1 ?side2 ?side3 ?side4 A75.out).mono ?_
            (case side1 => exact C_up (Kd.R_reads' HO_428003.out).2.2)
            (case side2 => exact (Kd.R_reads' HO_428003.out).2.1)
            (case side3 => exact C_up (Kd.R_reads' HO478.out).2.2)
            (case side4 => exact (Kd.R_reads' HO478.out).2.1)
            rintro e w149 ⟨rfl, hb⟩
            refine ⟨_, rfl, ?_⟩
            have n2_ := Aside0.mk (blk_below (g := gb417) (o := .cells #[.int .i64 0, .string (⟨#[]⟩ : ByteArray), .string (⟨#[]⟩ : ByteArray), .slice none 0 0, .int .i64 0, .int .i64 0, .int .i64 0, .slice none 0 0] 37 (0, 0)) (blk_up BK417.out) hb)
            have n3_ := Aside0.mk (blk_below (g := gb427) (blk_up BK427.out) hb)
            have n4_ := Aside0.mk (blk_below (g := gb418) (blk_up BK418.out) hb)
            have n5_ := Aside0.mk (below_step (hs_) hb)
            clear HO_428003
            clear HO478
            clear BK417
            clear BK427
            clear BK418
            clear HB
            have BK417 := n2_
            have BK427 := n3_
            have BK418 := n4_
            have HB := n5_
            clear n2_ n3_ n4_ n5_
            (try clear hb)
            (try clear hb2)
            (try clear hk)
            (try clear hi)
            refine hK.out _ _ ⟨(blk_cell BK418.out 0).trans rfl, (blk_cell BK418.out 1).trans rfl, (blk_cell BK427.out 0).trans rfl, (blk_cell BK427.out 1).trans rfl, (blk_cell BK427.out 2).trans rfl, (blk_cell BK427.out 3).trans rfl, (blk_cell BK427.out 4).trans rfl, (blk_cell BK427.out 5).trans rfl, (blk_cell BK427.out 6).trans rfl, (blk_cell BK427.out 7).trans rfl⟩ (fun hHeld => ?_)
            clear hK K
            refine norm_ (a' := ?_) ?_ ?_
            rotate_left
            · show Act.put _ (some 79) _ = _
              simp only [Act.put, List.setIfInBounds_toArray, List.set_cons_zero, List.set_cons_succ, i64_w, i32_w]
              rfl
            refine pu_ (i := 7) (N := some 80) (v := ?_) (a' := ?_) rfl rfl (any_of HT_.out (by kernel_rfl)) (fun _ _ _ h => h) (Or.inl ⟨by rfl, ?_⟩) ?_ ?_; rotate_left
            · intro w'; go_simp; all_goals (first | with_reducible rfl | (simp [Instr.field, go_sem]; rfl))
            rotate_left
            · simp only [Act.put, List.setIfInBounds_toArray, List.set_cons_zero, List.set_cons_succ, i64_w, i32_w]; rfl
            refine pu_ (i := 8) (N := some 81) (v := ?_) (a' := ?_) rfl rfl (any_of HT_.out (by kernel_rfl)) (fun _ _ _ h => h) (Or.inl ⟨by rfl, ?_⟩) ?_ ?_; rotate_left
            · intro w'; go_simp; all_goals (first | with_reducible rfl | (simp [Instr.field, go_sem]; rfl))
            rotate_left
            · simp only [Act.put, List.setIfInBounds_toArray, List.set_cons_zero, List.set_cons_succ, i64_w, i32_w]; rfl
            refine pu_ (i := 9) (N := some 82) (v := ?_) (a' := ?_) rfl rfl (any_of HT_.out (by kernel_rfl)) (fun _ _ _ h => h) (Or.inl ⟨by rfl, ?_⟩) ?_ ?_; rotate_left
            · intro w'; go_simp; all_goals (first | with_reducible rfl | (simp [Instr.field, go_sem]; rfl))
            rotate_left
            · simp only [Act.put, List.setIfInBounds_toArray, List.set_cons_zero, List.set_cons_succ, i64_w, i32_w]; rfl
            refine pu_ (i := 10) (N := some 83) (v := undef) (a' := ?_) rfl rfl (any_of HT_.out (by kernel_rfl)) (fun _ _ _ h => h) (Or.inr ⟨by rfl, rfl⟩) ?_ ?_; rotate_left
            · simp only [Act.put, List.setIfInBounds_toArray, List.set_cons_zero, List.set_cons_succ, i64_w, i32_w]; rfl
            refine pu_ (i := 11) (N := some 84) (v := undef) (a' := ?_) rfl rfl (any_of HT_.out (by kernel_rfl)) (fun _ _ _ h => h) (Or.inr ⟨by rfl, rfl⟩) ?_ ?_; rotate_left
            · simp only [Act.put, List.setIfInBounds_toArray, List.set_cons_zero, List.set_cons_succ, i64_w, i32_w]; rfl
            refine pu_ (i := 12) (N := some 85) (v := undef) (a' := ?_) rfl rfl (any_of HT_.out (by kernel_rfl)) (fun _ _ _ h => h) (Or.inr ⟨by rfl, rfl⟩) ?_ ?_; rotate_left
            · simp only [Act.put, List.setIfInBounds_toArray, List.set_cons_zero, List.set_cons_succ, i64_w, i32_w]; rfl
            refine pu_ (i := 13) (N := some 86) (v := undef) (a' := ?_) rfl rfl (any_of HT_.out (by kernel_rfl)) (fun _ _ _ h => h) (Or.inr ⟨by rfl, rfl⟩) ?_ ?_; rotate_left
            · simp only [Act.put, List.setIfInBounds_toArray, List.set_cons_zero, List.set_cons_succ, i64_w, i32_w]; rfl
            refine pu_ (i := 14) (N := some 87) (v := undef) (a' := ?_) rfl rfl (any_of HT_.out (by kernel_rfl)) (fun _ _ _ h => h) (Or.inr ⟨by rfl, rfl⟩) ?_ ?_; rotate_left
            · simp only [Act.put, List.setIfInBounds_toArray, List.set_cons_zero, List.set_cons_succ, i64_w, i32_w]; rfl
            refine pu_ (i := 15) (N := some 88) (v := undef) (a' := ?_) rfl rfl (any_of HT_.out (by kernel_rfl)) (fun _ _ _ h => h) (Or.inr ⟨by rfl, rfl⟩) ?_ ?_; rotate_left
            · simp only [Act.put, List.setIfInBounds_toArray, List.set_cons_zero, List.set_cons_succ, i64_w, i32_w]; rfl
            refine pu_ (i := 16) (N := some 89) (v := undef) (a' := ?_) rfl rfl (any_of HT_.out (by kernel_rfl)) (fun _ _ _ h => h) (Or.inr ⟨by rfl, rfl⟩) ?_ ?_; rotate_left
            · simp only [Act.put, List.setIfInBounds_toArray, List.set_cons_zero, List.set_cons_succ, i64_w, i32_w]; rfl
            refine pu_ (i := 17) (N := some 90) (v := ?_) (a' := ?_) rfl rfl (any_of HT_.out (by kernel_rfl)) (fun _ _ _ h => h) (Or.inl ⟨by rfl, ?_⟩) ?_ ?_; rotate_left
            · intro w'; go_simp; all_goals (first | with_reducible rfl | (simp [Instr.field, go_sem]; rfl))
            rotate_left
            · simp only [Act.put, List.setIfInBounds_toArray, List.set_cons_zero, List.set_cons_succ, i64_w, i32_w]; rfl
            refine done_ (done_of HT_.out (by kernel_rfl)) ?_
            have hnb150 := NB417_418.out
            have hnc150 := NB418_417.out
            obtain ⟨_, _, _, _, _, _, _, _⟩ := blk_cells8 BK417.out
            obtain ⟨_, _, _, _, _, _, _, _⟩ := blk_frozen8 BK417.out
            try go_wp2
            refine bodyPost_ret (results_ct rfl _ _ gb417 37 #[.int .i64 0, .string (⟨#[]⟩ : ByteArray), .string (⟨#[]⟩ : ByteArray), .slice none 0 0, .int .i64 0, .int .i64 0, .int .i64 0, .slice none 0 0] (0, 0) _ rfl (by (with_reducible repeat (first | refine blk_drewN ?_ _ | refine blk_drew ?_ | refine blk_alloc ?_ _)); refine blk_put (cs := #[.int .i64 0, .string (⟨#[]⟩ : ByteArray), .string (⟨#[]⟩ : ByteArray), .slice none 0 0, .int .i64 0, .int .i64 0, .int .i64 0, .slice none 0 0]) ?_ 7 _ rfl; (with_reducible repeat (first | refine blk_drewN ?_ _ | refine blk_drew ?_ | refine blk_alloc ?_ _)); refine blk_put (cs := #[.int .i64 0, .string (⟨#[]⟩ : ByteArray), .string (⟨#[]⟩ : ByteArray), .slice none 0 0, .int .i64 0, .int .i64 0, .int .i64 0, .slice none 0 0]) ?_ 6 _ rfl; (with_reducible repeat (first | refine blk_drewN ?_ _ | refine blk_drew ?_ | refine blk_alloc ?_ _)); refine blk_put (cs := #[.int .i64 0, .string (⟨#[]⟩ : ByteArray), .string (⟨#[]⟩ : ByteArray), .slice none 0 0, .int .i64 0, .int .i64 0, .int .i64 0, .slice none 0 0]) ?_ 5 _ rfl; (with_reducible repeat (first | refine blk_drewN ?_ _ | refine blk_drew ?_ | refine blk_alloc ?_ _)); refine blk_put (cs := #[.int .i64 0, .string (⟨#[]⟩ : ByteArray), .string (⟨#[]⟩ : ByteArray), .slice none 0 0, .int .i64 0, .int .i64 0, .int .i64 0, .slice none 0 0]) ?_ 4 _ rfl; (with_reducible repeat (first | refine blk_drewN ?_ _ | refine blk_drew ?_ | refine blk_alloc ?_ _)); refine blk_put (cs := #[.int .i64 0, .string (⟨#[]⟩ : ByteArray), .string (⟨#[]⟩ : ByteArray), .slice none 0 0, .int .i64 0, .int .i64 0, .int .i64 0, .slice none 0 0]) ?_ 3 _ rfl; (with_reducible repeat (first | refine blk_drewN ?_ _ | refine blk_drew ?_ | refine blk_alloc ?_ _)); refine blk_put (cs := #[.int .i64 0, .string (⟨#[]⟩ : ByteArray), .string (⟨#[]⟩ : ByteArray), .slice none 0 0, .int .i64 0, .int .i64 0, .int .i64 0, .slice none 0 0]) ?_ 2 _ rfl; (with_reducible repeat (first | refine blk_drewN ?_ _ | refine blk_drew ?_ | refine blk_alloc ?_ _)); refine blk_put (cs := #[.int .i64 0, .string (⟨#[]⟩ : ByteArray), .string (⟨#[]⟩ : ByteArray), .slice none 0 0, .int .i64 0, .int .i64 0, .int .i64 0, .slice none 0 0]) ?_ 1 _ rfl; (with_reducible repeat (first | refine blk_drewN ?_ _ | refine blk_drew ?_ | refine blk_alloc ?_ _)); refine blk_put (cs := #[.int .i64 0, .string (⟨#[]⟩ : ByteArray), .string (⟨#[]⟩ : ByteArray), .slice none 0 0, .int .i64 0, .int .i64 0, .int .i64 0, .slice none 0 0]) ?_ 0 _ rfl; (with_reducible repeat (first | refine blk_drewN ?_ _ | refine blk_drew ?_ | refine blk_alloc ?_ _)); exact BK417.out) Try.underlying37 rfl (by kernel_rfl)) rfl ?_
            exact ⟨_, _, by first | rfl | (simp [errW_none, errW_some] <;> rfl) | (simp only [← hji14]; first | rfl | (simp [errW_none, errW_some] <;> rfl)) | (simp [*, errW_none, errW_some] <;> rfl), by first | exact Kd.R_nil _ _ _ _ _ | exact Kd.N_nil _ _ _ _ _ | exact Kd.V_nil _ _ _ _ _ | exact Kd.Q_nil _ _ _ _ _ | exact Kd.S_nil _ _ _ _ _, by first | exact Kd.R_nil _ _ _ _ _ | exact Kd.N_nil _ _ _ _ _ | exact Kd.V_nil _ _ _ _ _ | exact Kd.Q_nil _ _ _ _ _ | exact Kd.S_nil _ _ _ _ _, hs_⟩
     · rw [if_neg c15] at H
       exact absurd H (by simp)

end Go.Proofs.Ytehdbobpbcjmeaa.PFnExactReadJournal

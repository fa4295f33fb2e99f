/- Functions of the program as Lean functions, each with the proof that its call comes to what that function says (texts written by a program of this session). Conditions: those that stand in each theorem. -/
import Derived.Test.YtnehephjliankaaPFnExactCmdFaultx0
import Derived.Test.YtnehephjliankaaPFnExactCmdFaultx8
import Derived.Test.YtnehephjliankaaPFnExactCmdFaultx9
import Derived.Test.YtnehephjliankaaPFnExactCmdFaultx10
import Derived.Test.YtnehephjliankaaPFnExactCmdFaultx13
namespace Go.Proofs.Ytnehephjliankaa.PFnExactCmdFault
open Go.RowKit Go.Proofs.YtnehephjliankaaW.PrintWords Go.Proofs.YtnehephjliankaaW.PrintLast Go.Proofs.YtnehephjliankaaW.PrintMore
attribute [local go_sem] max2_int min2_int max_two min_two max_three min_three max_four min_four   -- for this text's walks alone
set_option linter.unusedVariables false
set_option linter.unusedSimpArgs false

/-! ### impl_CmdFault: function 9 -/
mutual
def impl_CmdFault.j1 : Nat → ByteArray → Int → ByteArray → List (S100) → Int → Int → Int → List Int → Int → List Int → Int → Bool → List (S104) → Int → Option (Int)
 | 0, _, _, _, _, _, _, _, _, _, _, _, _, _, _ => none
 | k + 1, x430000, x430001, x430002, x430003, x430004, x430005, x430006, x430007, x430008, x430009, x430010, x430011, x430012, x430013 => (impl_Cmd_hasRanges.f k x430000 x430001 x430002 x430003 x430004 x430005 x430006 x430007 x430008 x430009 x430010 x430011 x430012 x430013).bind fun t435 => (if t435 = true then ((impl_RangesFault.f k x430003).bind fun t436 => (if t436 = 0 then (impl_CmdFault.j2 k x430000 x430001 x430002 x430003 x430004 x430005 x430006 x430007 x430008 x430009 x430010 x430011 x430012 x430013) else (some t436))) else (impl_CmdFault.j2 k x430000 x430001 x430002 x430003 x430004 x430005 x430006 x430007 x430008 x430009 x430010 x430011 x430012 x430013))
def impl_CmdFault.j2 : Nat → ByteArray → Int → ByteArray → List (S100) → Int → Int → Int → List Int → Int → List Int → Int → Bool → List (S104) → Int → Option (Int)
 | 0, _, _, _, _, _, _, _, _, _, _, _, _, _, _ => none
 | k + 1, x430000, x430001, x430002, x430003, x430004, x430005, x430006, x430007, x430008, x430009, x430010, x430011, x430012, x430013 => (impl_Cmd_areNumbers.f k x430000 x430001 x430002 x430003 x430004 x430005 x430006 x430007 x430008 x430009 x430010 x430011 x430012 x430013).bind fun t437 => (if t437 = true then ((impl_Cmd_hasTerms.f k x430000 x430001 x430002 x430003 x430004 x430005 x430006 x430007 x430008 x430009 x430010 x430011 x430012 x430013).bind fun t438 => (if t438 = true then ((impl_TermsFault.f k x430012).bind fun t439 => (some t439)) else (some 0))) else (some 3))
def impl_CmdFault.j0 : Nat → Bool → ByteArray → Int → ByteArray → List (S100) → Int → Int → Int → List Int → Int → List Int → Int → Bool → List (S104) → Int → Option (Int)
 | 0, _, _, _, _, _, _, _, _, _, _, _, _, _, _, _ => none
 | k + 1, x9, x430000, x430001, x430002, x430003, x430004, x430005, x430006, x430007, x430008, x430009, x430010, x430011, x430012, x430013 => if x9 = true then (some 1) else ((impl_Cmd_hasName.f k x430000 x430001 x430002 x430003 x430004 x430005 x430006 x430007 x430008 x430009 x430010 x430011 x430012 x430013).bind fun t433 => (if t433 = true then ((impl_isName.f k x430002).bind fun t434 => (if t434 = true then (impl_CmdFault.j1 k x430000 x430001 x430002 x430003 x430004 x430005 x430006 x430007 x430008 x430009 x430010 x430011 x430012 x430013) else (some 5))) else (impl_CmdFault.j1 k x430000 x430001 x430002 x430003 x430004 x430005 x430006 x430007 x430008 x430009 x430010 x430011 x430012 x430013)))
end
def impl_CmdFault.f (k : Nat) (a0_0 : ByteArray) (a0_1 : Int) (a0_2 : ByteArray) (l0_3 : List (S100)) (a0_4 : Int) (a0_5 : Int) (a0_6 : Int) (l0_7 : List Int) (a0_8 : Int) (l0_9 : List Int) (a0_10 : Int) (a0_11 : Bool) (l0_12 : List (S104)) (a0_13 : Int) : Option (Int) := (impl_isTag.f k a0_0).bind fun t430 => (if t430 = true then ((impl_within.f a0_1 1 14).bind fun t431 => (if t431 = true then ((impl_Cmd_isOnly.f k a0_0 a0_1 a0_2 l0_3 a0_4 a0_5 a0_6 l0_7 a0_8 l0_9 a0_10 a0_11 l0_12 a0_13).bind fun t432 => (impl_CmdFault.j0 k (!t432) a0_0 a0_1 a0_2 l0_3 a0_4 a0_5 a0_6 l0_7 a0_8 l0_9 a0_10 a0_11 l0_12 a0_13)) else (impl_CmdFault.j0 k true a0_0 a0_1 a0_2 l0_3 a0_4 a0_5 a0_6 l0_7 a0_8 l0_9 a0_10 a0_11 l0_12 a0_13))) else (some 5))
set_option maxHeartbeats 8000000 in
set_option maxRecDepth 100000 in
theorem impl_CmdFault.calls (k : Nat) (a0_0 : ByteArray) (a0_1 : Int) (a0_2 : ByteArray) (A0_3 : Option Addr) (c0_3 : Nat) (l0_3 : List (S100)) (a0_4 : Int) (a0_5 : Int) (a0_6 : Int) (A0_7 : Option Addr) (c0_7 : Nat) (l0_7 : List Int) (a0_8 : Int) (A0_9 : Option Addr) (c0_9 : Nat) (l0_9 : List Int) (a0_10 : Int) (a0_11 : Bool) (A0_12 : Option Addr) (c0_12 : Nat) (l0_12 : List (S104)) (a0_13 : Int) (r : Int) (w : World) (hr0_3 : Kd.C k100 w A0_3 l0_3.length l0_3) (hc0_3 : l0_3.length ≤ c0_3) (hr0_7 : Kd.C (Kd.int .u8) w A0_7 l0_7.length l0_7) (hc0_7 : l0_7.length ≤ c0_7) (hr0_9 : Kd.C (Kd.int .i64) w A0_9 l0_9.length l0_9) (hc0_9 : l0_9.length ≤ c0_9) (hr0_12 : Kd.C k104 w A0_12 l0_12.length l0_12) (hc0_12 : l0_12.length ≤ c0_12) (h : impl_CmdFault.f k a0_0 a0_1 a0_2 l0_3 a0_4 a0_5 a0_6 l0_7 a0_8 l0_9 a0_10 a0_11 l0_12 a0_13 = some r) :
 Calls Try.prog 9 #[.agg #[.string a0_0, .int .i64 a0_1, .string a0_2, .slice A0_3 l0_3.length c0_3, .int .i64 a0_4, .int .i64 a0_5, .int .i64 a0_6, .slice A0_7 l0_7.length c0_7, .int .i64 a0_8, .slice A0_9 l0_9.length c0_9, .int .i64 a0_10, .bool a0_11, .slice A0_12 l0_12.length c0_12, .int .i64 a0_13]] w fun e w' => e = .returned (.int .i64 r) ∧ Below w.heap.size w w' := by
 have hu33 := Try.underlying33
 have HR0_3 := Aside0.mk hr0_3
 have HC0_3 := Aside0.mk hc0_3
 clear hr0_3 hc0_3
 have HR0_7 := Aside0.mk hr0_7
 have HC0_7 := Aside0.mk hc0_7
 clear hr0_7 hc0_7
 have HR0_9 := Aside0.mk hr0_9
 have HC0_9 := Aside0.mk hc0_9
 clear hr0_9 hc0_9
 have HR0_12 := Aside0.mk hr0_12
 have HC0_12 := Aside0.mk hc0_12
 clear hr0_12 hc0_12
 have HB := Aside0.mk (Below.refl w.heap.size w)
 have H : ((impl_isTag.f k a0_0).bind fun t430 => (if t430 = true then ((impl_within.f a0_1 1 14).bind fun t431 => (if t431 = true then ((impl_Cmd_isOnly.f k a0_0 a0_1 a0_2 l0_3 a0_4 a0_5 a0_6 l0_7 a0_8 l0_9 a0_10 a0_11 l0_12 a0_13).bind fun t432 => (impl_CmdFault.j0 k (!t432) a0_0 a0_1 a0_2 l0_3 a0_4 a0_5 a0_6 l0_7 a0_8 l0_9 a0_10 a0_11 l0_12 a0_13)) else (impl_CmdFault.j0 k true a0_0 a0_1 a0_2 l0_3 a0_4 a0_5 a0_6 l0_7 a0_8 l0_9 a0_10 a0_11 l0_12 a0_13))) else (some 5))) = some r := h
 clear h
 have HC2 := Aside0.mk H
 clear H
 go_enter Try.func9, Try.ntmps9
 go_upto_block 0 with (first | ((with_reducible refine gate_dst (N := 1) rfl ?_); refine box_event ?hg (N := 1) ?hd (cs := #[.string a0_0, .int .i64 a0_1, .string a0_2, .slice A0_3 l0_3.length c0_3, .int .i64 a0_4, .int .i64 a0_5, .int .i64 a0_6, .slice A0_7 l0_7.length c0_7, .int .i64 a0_8, .slice A0_9 l0_9.length c0_9, .int .i64 a0_10, .bool a0_11, .slice A0_12 l0_12.length c0_12, .int .i64 a0_13]) (t := 33) ?hr ?_; (case hd => rfl); (case hg => rfl); (case hr => first | (go_simp; done) | (go_simp; rfl)); intro gb429 hg w3 hbox hb; have n0_ := Aside0.mk (below_step (HB_up HB.out) hb); have n1_ := Aside0.mk (hbox); have n2_ := Aside0.mk ((by rw [hg]; exact (below_size (HB_up HB.out)) : w.heap.size ≤ gb429)); have n3_ := Aside0.mk ((by rw [hg]; exact (below_size (HB_up HB.out)) : w.heap.size ≤ gb429)); clear HB; have HB := n0_; have BK429 := n1_; have GW429 := n2_; have GE429 := n3_; clear n0_ n1_ n2_ n3_; clear hb hbox hg))
 (try simp only [Act.put, List.setIfInBounds_toArray, List.set_cons_zero, List.set_cons_succ])
 go_cut [] (fun wc => ∃ (kq : Nat), Aside0 (impl_CmdFault.j1 kq a0_0 a0_1 a0_2 l0_3 a0_4 a0_5 a0_6 l0_7 a0_8 l0_9 a0_10 a0_11 l0_12 a0_13 = some r) ∧ Aside0 (kq ≤ k) ∧ Aside0 (wc.heap[gb429]? = some (.cells #[.string a0_0, .int .i64 a0_1, .string a0_2, (.slice A0_3 l0_3.length c0_3), .int .i64 a0_4, .int .i64 a0_5, .int .i64 a0_6, (.slice A0_7 l0_7.length c0_7), .int .i64 a0_8, (.slice A0_9 l0_9.length c0_9), .int .i64 a0_10, .bool a0_11, (.slice A0_12 l0_12.length c0_12), .int .i64 a0_13] 33 (0, 0))) ∧ Aside0 (Below w.heap.size w wc))
 case first =>
  have H := HC2.out
  clear HC2
  replace H := Option.bind_eq_some_iff.mp H
  obtain ⟨t430, A40, H⟩ := H
  (try dsimp only at H)
  have A4 := Aside0.mk A40
  clear A40
  by_cases c5 : t430 = true
  ·
   subst c5
   (try rw [if_pos rfl] at H)
   have HC6 := Aside0.mk H
   clear H
   obtain ⟨hcz7_0, hcz7_1, hcz7_2, hcz7_3, hcz7_4, hcz7_5, hcz7_6, hcz7_7, hcz7_8, hcz7_9, hcz7_10, hcz7_11, hcz7_12, hcz7_13⟩ := blk_cells14 BK429.out
   obtain ⟨hfz7_0, hfz7_1, hfz7_2, hfz7_3, hfz7_4, hfz7_5, hfz7_6, hfz7_7, hfz7_8, hfz7_9, hfz7_10, hfz7_11, hfz7_12, hfz7_13⟩ := blk_frozen14 BK429.out
   go_upto_region 3 with (first | ((with_reducible refine gate_callee (f := 36) rfl ?_); refine goesY_ (some 7) Try.func36 #[.string a0_0] rfl ?_; (with_reducible refine (impl_isTag.calls k a0_0 true _ A4.out).mono ?_); rintro e w' ⟨rfl, ⟨nd, rfl⟩⟩; refine ⟨_, rfl, ?_⟩))
   (try simp only [Act.put, List.setIfInBounds_toArray, List.set_cons_zero, List.set_cons_succ])
   go_cut [9] (fun v9 wc => ∃ (kq : Nat) (x9_5 : Bool), v9 = .bool x9_5 ∧ Aside0 (impl_CmdFault.j0 kq x9_5 a0_0 a0_1 a0_2 l0_3 a0_4 a0_5 a0_6 l0_7 a0_8 l0_9 a0_10 a0_11 l0_12 a0_13 = some r) ∧ Aside0 (kq ≤ k) ∧ Aside0 (wc.heap[gb429]? = some (.cells #[.string a0_0, .int .i64 a0_1, .string a0_2, (.slice A0_3 l0_3.length c0_3), .int .i64 a0_4, .int .i64 a0_5, .int .i64 a0_6, (.slice A0_7 l0_7.length c0_7), .int .i64 a0_8, (.slice A0_9 l0_9.length c0_9), .int .i64 a0_10, .bool a0_11, (.slice A0_12 l0_12.length c0_12), .int .i64 a0_13] 33 (0, 0))) ∧ Aside0 (Below w.heap.size w wc))
   case first =>
    have H := HC6.out
    clear HC6
    replace H := Option.bind_eq_some_iff.mp H
    obtain ⟨t431, A80, H⟩ := H
    (try dsimp only at H)
    have A8 := Aside0.mk A80
    clear A80
    by_cases c9 : t431 = true
    ·
     subst c9
     (try rw [if_pos rfl] at H)
     replace H := Option.bind_eq_some_iff.mp H
     obtain ⟨t432, A100, H⟩ := H
     (try dsimp only at H)
     have A10 := Aside0.mk A100
     clear A100
     have H' := Aside0.mk H
     clear H
     obtain ⟨_, _, _, _, _, _, _, _, _, _, _, _, _, _⟩ := blk_cells14 BK429.out
     obtain ⟨_, _, _, _, _, _, _, _, _, _, _, _, _, _⟩ := blk_frozen14 BK429.out
     go_wp2_with (first | ((with_reducible refine gate_callee (f := 37) rfl ?_); refine goesY_ (some 12) Try.func37 #[.int .i64 a0_1, .int .i64 1, .int .i64 14] rfl ?_; (with_reducible refine (impl_within.calls a0_1 1 14 true _ A8.out).mono ?_); rintro e w' ⟨rfl, ⟨nd, rfl⟩⟩; refine ⟨_, rfl, ?_⟩) | (go_at_call 38; (with_reducible refine (impl_Cmd_isOnly.calls k a0_0 a0_1 a0_2 _ _ l0_3 a0_4 a0_5 a0_6 _ _ l0_7 a0_8 _ _ l0_9 a0_10 a0_11 _ _ l0_12 a0_13 t432 _ ?_ ?_ ?_ ?_ ?_ ?_ ?_ ?_ A10.out).mono ?_); exact Kd.C_below HR0_3.out (HB_up HB.out); exact HC0_3.out; exact Kd.C_below HR0_7.out (HB_up HB.out); exact HC0_7.out; exact Kd.C_below HR0_9.out (HB_up HB.out); exact HC0_9.out; exact Kd.C_below HR0_12.out (HB_up HB.out); exact HC0_12.out; rintro e w12 ⟨rfl, hb⟩; replace BK429 := Aside0.mk (blk_below (g := gb429) (blk_up BK429.out) hb); replace HB := Aside0.mk (below_step (HB_up HB.out) hb); (try clear hb)))
     go_meet
     case rel => exact ⟨_, (!t432), vl_, H', ⟨le_⟩, ⟨blk_up BK429.out⟩, ⟨hs_⟩⟩
    ·
     replace c9 := Bool.eq_false_iff.mpr c9
     subst c9
     (try rw [if_neg (show ¬ (false = true) by decide)] at H)
     have H' := Aside0.mk H
     clear H
     obtain ⟨_, _, _, _, _, _, _, _, _, _, _, _, _, _⟩ := blk_cells14 BK429.out
     obtain ⟨_, _, _, _, _, _, _, _, _, _, _, _, _, _⟩ := blk_frozen14 BK429.out
     go_wp2_with (first | ((with_reducible refine gate_callee (f := 37) rfl ?_); refine goesY_ (some 12) Try.func37 #[.int .i64 a0_1, .int .i64 1, .int .i64 14] rfl ?_; (with_reducible refine (impl_within.calls a0_1 1 14 false _ A8.out).mono ?_); rintro e w' ⟨rfl, ⟨nd, rfl⟩⟩; refine ⟨_, rfl, ?_⟩))
     go_meet
     case rel => exact ⟨_, (true), vl_, H', ⟨le_⟩, ⟨blk_up BK429.out⟩, ⟨hs_⟩⟩
   case rest =>
    clear HC6
    try clear c5
    try clear hcz7_0
    try clear hcz7_1
    try clear hcz7_10
    try clear hcz7_11
    try clear hcz7_12
    try clear hcz7_13
    try clear hcz7_2
    try clear hcz7_3
    try clear hcz7_4
    try clear hcz7_5
    try clear hcz7_6
    try clear hcz7_7
    try clear hcz7_8
    try clear hcz7_9
    try clear hfz7_0
    try clear hfz7_1
    try clear hfz7_10
    try clear hfz7_11
    try clear hfz7_12
    try clear hfz7_13
    try clear hfz7_2
    try clear hfz7_3
    try clear hfz7_4
    try clear hfz7_5
    try clear hfz7_6
    try clear hfz7_7
    try clear hfz7_8
    try clear hfz7_9
    obtain ⟨kq, x9_5, rfl, HA, HJ5, BK429, HB⟩ := hcut
    cases kq with
    | zero => exact absurd HA.out (by simp [impl_CmdFault.j0])
    | succ kj5 =>
      have H := HA.out
      clear HA
      simp only [impl_CmdFault.j0] at H
      by_cases c14 : x9_5 = true
      ·
       subst c14
       (try rw [if_pos rfl] at H)
       obtain rfl := Option.some.inj H
       go_wp2
       go_ret
       exact ⟨ve_, hs_⟩
      ·
       replace c14 := Bool.eq_false_iff.mpr c14
       subst c14
       (try rw [if_neg (show ¬ (false = true) by decide)] at H)
       replace H := Option.bind_eq_some_iff.mp H
       obtain ⟨t433, A150, H⟩ := H
       (try dsimp only at H)
       have A15 := Aside0.mk A150
       clear A150
       by_cases c16 : t433 = true
       ·
        subst c16
        (try rw [if_pos rfl] at H)
        replace H := Option.bind_eq_some_iff.mp H
        obtain ⟨t434, A170, H⟩ := H
        (try dsimp only at H)
        have A17 := Aside0.mk A170
        clear A170
        by_cases c18 : t434 = true
        ·
         subst c18
         (try rw [if_pos rfl] at H)
         have H' := Aside0.mk H
         clear H
         obtain ⟨_, _, _, _, _, _, _, _, _, _, _, _, _, _⟩ := blk_cells14 BK429.out
         obtain ⟨_, _, _, _, _, _, _, _, _, _, _, _, _, _⟩ := blk_frozen14 BK429.out
         go_wp2_with (first | ((with_reducible refine gate_callee (f := 39) rfl ?_); refine goesY_ (some 21) Try.func39 #[.agg #[.string a0_0, .int .i64 a0_1, .string a0_2, .slice A0_3 l0_3.length c0_3, .int .i64 a0_4, .int .i64 a0_5, .int .i64 a0_6, .slice A0_7 l0_7.length c0_7, .int .i64 a0_8, .slice A0_9 l0_9.length c0_9, .int .i64 a0_10, .bool a0_11, .slice A0_12 l0_12.length c0_12, .int .i64 a0_13]] rfl ?_; (with_reducible refine (impl_Cmd_hasName.calls kj5 a0_0 a0_1 a0_2 _ _ l0_3 a0_4 a0_5 a0_6 _ _ l0_7 a0_8 _ _ l0_9 a0_10 a0_11 _ _ l0_12 a0_13 true _ ?_ ?_ ?_ ?_ ?_ ?_ ?_ ?_ A15.out).mono ?_); exact C_up (Kd.C_below HR0_3.out HB.out); exact HC0_3.out; exact C_up (Kd.C_below HR0_7.out HB.out); exact HC0_7.out; exact C_up (Kd.C_below HR0_9.out HB.out); exact HC0_9.out; exact C_up (Kd.C_below HR0_12.out HB.out); exact HC0_12.out; rintro e w20 ⟨rfl, hb⟩; refine ⟨_, rfl, ?_⟩; replace BK429 := Aside0.mk (blk_below (g := gb429) (blk_up BK429.out) hb); replace HB := Aside0.mk (below_step (HB_up HB.out) hb); (try clear hb); obtain ⟨_, _, _, _, _, _, _, _, _, _, _, _, _, _⟩ := blk_cells14 BK429.out; obtain ⟨_, _, _, _, _, _, _, _, _, _, _, _, _, _⟩ := blk_frozen14 BK429.out) | (go_at_call 40; (with_reducible refine (impl_isName.calls kj5 a0_2 true _ A17.out).mono ?_); rintro e w' ⟨rfl, ⟨nd, rfl⟩⟩))
         go_meet
         case rel => exact ⟨_, H', ⟨by have := HJ5.out; first | omega | exact Nat.le_refl _⟩, ⟨blk_up BK429.out⟩, ⟨hs_⟩⟩
        ·
         replace c18 := Bool.eq_false_iff.mpr c18
         subst c18
         (try rw [if_neg (show ¬ (false = true) by decide)] at H)
         obtain rfl := Option.some.inj H
         obtain ⟨_, _, _, _, _, _, _, _, _, _, _, _, _, _⟩ := blk_cells14 BK429.out
         obtain ⟨_, _, _, _, _, _, _, _, _, _, _, _, _, _⟩ := blk_frozen14 BK429.out
         go_wp2_with (first | ((with_reducible refine gate_callee (f := 39) rfl ?_); refine goesY_ (some 21) Try.func39 #[.agg #[.string a0_0, .int .i64 a0_1, .string a0_2, .slice A0_3 l0_3.length c0_3, .int .i64 a0_4, .int .i64 a0_5, .int .i64 a0_6, .slice A0_7 l0_7.length c0_7, .int .i64 a0_8, .slice A0_9 l0_9.length c0_9, .int .i64 a0_10, .bool a0_11, .slice A0_12 l0_12.length c0_12, .int .i64 a0_13]] rfl ?_; (with_reducible refine (impl_Cmd_hasName.calls kj5 a0_0 a0_1 a0_2 _ _ l0_3 a0_4 a0_5 a0_6 _ _ l0_7 a0_8 _ _ l0_9 a0_10 a0_11 _ _ l0_12 a0_13 true _ ?_ ?_ ?_ ?_ ?_ ?_ ?_ ?_ A15.out).mono ?_); exact C_up (Kd.C_below HR0_3.out HB.out); exact HC0_3.out; exact C_up (Kd.C_below HR0_7.out HB.out); exact HC0_7.out; exact C_up (Kd.C_below HR0_9.out HB.out); exact HC0_9.out; exact C_up (Kd.C_below HR0_12.out HB.out); exact HC0_12.out; rintro e w23 ⟨rfl, hb⟩; refine ⟨_, rfl, ?_⟩; replace BK429 := Aside0.mk (blk_below (g := gb429) (blk_up BK429.out) hb); replace HB := Aside0.mk (below_step (HB_up HB.out) hb); (try clear hb); obtain ⟨_, _, _, _, _, _, _, _, _, _, _, _, _, _⟩ := blk_cells14 BK429.out; obtain ⟨_, _, _, _, _, _, _, _, _, _, _, _, _, _⟩ := blk_frozen14 BK429.out) | (go_at_call 40; (with_reducible refine (impl_isName.calls kj5 a0_2 false _ A17.out).mono ?_); rintro e w' ⟨rfl, ⟨nd, rfl⟩⟩))
         go_ret
         exact ⟨ve_, hs_⟩
       ·
        replace c16 := Bool.eq_false_iff.mpr c16
        subst c16
        (try rw [if_neg (show ¬ (false = true) by decide)] at H)
        have H' := Aside0.mk H
        clear H
        obtain ⟨_, _, _, _, _, _, _, _, _, _, _, _, _, _⟩ := blk_cells14 BK429.out
        obtain ⟨_, _, _, _, _, _, _, _, _, _, _, _, _, _⟩ := blk_frozen14 BK429.out
        go_wp2_with (first | ((with_reducible refine gate_callee (f := 39) rfl ?_); refine goesY_ (some 21) Try.func39 #[.agg #[.string a0_0, .int .i64 a0_1, .string a0_2, .slice A0_3 l0_3.length c0_3, .int .i64 a0_4, .int .i64 a0_5, .int .i64 a0_6, .slice A0_7 l0_7.length c0_7, .int .i64 a0_8, .slice A0_9 l0_9.length c0_9, .int .i64 a0_10, .bool a0_11, .slice A0_12 l0_12.length c0_12, .int .i64 a0_13]] rfl ?_; (with_reducible refine (impl_Cmd_hasName.calls kj5 a0_0 a0_1 a0_2 _ _ l0_3 a0_4 a0_5 a0_6 _ _ l0_7 a0_8 _ _ l0_9 a0_10 a0_11 _ _ l0_12 a0_13 false _ ?_ ?_ ?_ ?_ ?_ ?_ ?_ ?_ A15.out).mono ?_); exact C_up (Kd.C_below HR0_3.out HB.out); exact HC0_3.out; exact C_up (Kd.C_below HR0_7.out HB.out); exact HC0_7.out; exact C_up (Kd.C_below HR0_9.out HB.out); exact HC0_9.out; exact C_up (Kd.C_below HR0_12.out HB.out); exact HC0_12.out; rintro e w26 ⟨rfl, hb⟩; refine ⟨_, rfl, ?_⟩; replace BK429 := Aside0.mk (blk_below (g := gb429) (blk_up BK429.out) hb); replace HB := Aside0.mk (below_step (HB_up HB.out) hb); (try clear hb)))
        go_meet
        case rel => exact ⟨_, H', ⟨by have := HJ5.out; first | omega | exact Nat.le_refl _⟩, ⟨blk_up BK429.out⟩, ⟨hs_⟩⟩
  ·
   replace c5 := Bool.eq_false_iff.mpr c5
   subst c5
   (try rw [if_neg (show ¬ (false = true) by decide)] at H)
   obtain rfl := Option.some.inj H
   obtain ⟨_, _, _, _, _, _, _, _, _, _, _, _, _, _⟩ := blk_cells14 BK429.out
   obtain ⟨_, _, _, _, _, _, _, _, _, _, _, _, _, _⟩ := blk_frozen14 BK429.out
   go_wp2_with (first | ((with_reducible refine gate_callee (f := 36) rfl ?_); refine goesY_ (some 7) Try.func36 #[.string a0_0] rfl ?_; (with_reducible refine (impl_isTag.calls k a0_0 false _ A4.out).mono ?_); rintro e w' ⟨rfl, ⟨nd, rfl⟩⟩; refine ⟨_, rfl, ?_⟩))
   go_ret
   exact ⟨ve_, hs_⟩
 case rest =>
  clear HC2
  obtain ⟨kq, HA, HJ1, BK429, HB⟩ := hcut
  cases kq with
  | zero => exact absurd HA.out (by simp [impl_CmdFault.j1])
  | succ kj1 =>
    have H := HA.out
    clear HA
    simp only [impl_CmdFault.j1] at H
    replace H := Option.bind_eq_some_iff.mp H
    obtain ⟨t435, A280, H⟩ := H
    (try dsimp only at H)
    have A28 := Aside0.mk A280
    clear A280
    have HC29 := Aside0.mk H
    clear H
    obtain ⟨hcz30_0, hcz30_1, hcz30_2, hcz30_3, hcz30_4, hcz30_5, hcz30_6, hcz30_7, hcz30_8, hcz30_9, hcz30_10, hcz30_11, hcz30_12, hcz30_13⟩ := blk_cells14 BK429.out
    obtain ⟨hfz30_0, hfz30_1, hfz30_2, hfz30_3, hfz30_4, hfz30_5, hfz30_6, hfz30_7, hfz30_8, hfz30_9, hfz30_10, hfz30_11, hfz30_12, hfz30_13⟩ := blk_frozen14 BK429.out
    go_upto_if 29 with (first | ((with_reducible refine gate_callee (f := 41) rfl ?_); refine goesY_ (some 29) Try.func41 #[.agg #[.string a0_0, .int .i64 a0_1, .string a0_2, .slice A0_3 l0_3.length c0_3, .int .i64 a0_4, .int .i64 a0_5, .int .i64 a0_6, .slice A0_7 l0_7.length c0_7, .int .i64 a0_8, .slice A0_9 l0_9.length c0_9, .int .i64 a0_10, .bool a0_11, .slice A0_12 l0_12.length c0_12, .int .i64 a0_13]] rfl ?_; (with_reducible refine (impl_Cmd_hasRanges.calls kj1 a0_0 a0_1 a0_2 _ _ l0_3 a0_4 a0_5 a0_6 _ _ l0_7 a0_8 _ _ l0_9 a0_10 a0_11 _ _ l0_12 a0_13 t435 _ ?_ ?_ ?_ ?_ ?_ ?_ ?_ ?_ A28.out).mono ?_); exact C_up (Kd.C_below HR0_3.out HB.out); exact HC0_3.out; exact C_up (Kd.C_below HR0_7.out HB.out); exact HC0_7.out; exact C_up (Kd.C_below HR0_9.out HB.out); exact HC0_9.out; exact C_up (Kd.C_below HR0_12.out HB.out); exact HC0_12.out; rintro e w31 ⟨rfl, hb⟩; refine ⟨_, rfl, ?_⟩; replace BK429 := Aside0.mk (blk_below (g := gb429) (blk_up BK429.out) hb); replace HB := Aside0.mk (below_step (HB_up HB.out) hb); (try clear hb)))
    (try simp only [Act.put, List.setIfInBounds_toArray, List.set_cons_zero, List.set_cons_succ])
    go_cut [] (fun wc => ∃ (kq : Nat), Aside0 (impl_CmdFault.j2 kq a0_0 a0_1 a0_2 l0_3 a0_4 a0_5 a0_6 l0_7 a0_8 l0_9 a0_10 a0_11 l0_12 a0_13 = some r) ∧ Aside0 (kq ≤ kj1) ∧ Aside0 (wc.heap[gb429]? = some (.cells #[.string a0_0, .int .i64 a0_1, .string a0_2, (.slice A0_3 l0_3.length c0_3), .int .i64 a0_4, .int .i64 a0_5, .int .i64 a0_6, (.slice A0_7 l0_7.length c0_7), .int .i64 a0_8, (.slice A0_9 l0_9.length c0_9), .int .i64 a0_10, .bool a0_11, (.slice A0_12 l0_12.length c0_12), .int .i64 a0_13] 33 (0, 0))) ∧ Aside0 (Below w.heap.size w wc))
    case first =>
     have H := HC29.out
     clear HC29
     by_cases c32 : t435 = true
     ·
      subst c32
      (try rw [if_pos rfl] at H)
      replace H := Option.bind_eq_some_iff.mp H
      obtain ⟨t436, A330, H⟩ := H
      (try dsimp only at H)
      have A33 := Aside0.mk A330
      clear A330
      by_cases c34 : t436 = 0
      ·
       rw [if_pos c34] at H
       have c34b0 : (t436 == 0) = true := beq_iff_eq.mpr c34
       have c34b1 : (t436 != 0) = false := bne_eq_false_iff_eq.mpr c34
       clear c34
       (first | rw [c34b0] | (simp only [i64_w, i32_w]; rw [c34b0]) | skip)
       have H' := Aside0.mk H
       clear H
       obtain ⟨_, _, _, _, _, _, _, _, _, _, _, _, _, _⟩ := blk_cells14 BK429.out
       obtain ⟨_, _, _, _, _, _, _, _, _, _, _, _, _, _⟩ := blk_frozen14 BK429.out
       go_wp2_with (first | ((with_reducible refine gate_callee (f := 42) rfl ?_); refine goesY_ (some 32) Try.func42 #[.slice A0_3 l0_3.length c0_3] rfl ?_; (with_reducible refine (impl_RangesFault.calls kj1 _ _ l0_3 t436 _ ?_ ?_ A33.out).mono ?_); exact C_up (Kd.C_below HR0_3.out HB.out); exact HC0_3.out; rintro e w36 ⟨rfl, hb⟩; refine ⟨_, rfl, ?_⟩; replace BK429 := Aside0.mk (blk_below (g := gb429) (blk_up BK429.out) hb); replace HB := Aside0.mk (below_step (HB_up HB.out) hb); (try clear hb)))
       go_meet
       case rel => exact ⟨_, H', ⟨by have := HJ1.out; first | omega | exact Nat.le_refl _⟩, ⟨blk_up BK429.out⟩, ⟨hs_⟩⟩
      ·
       rw [if_neg c34] at H
       have c34b0 : (t436 == 0) = false := beq_eq_false_iff_ne.mpr c34
       have c34b1 : (t436 != 0) = true := bne_iff_ne.mpr c34
       (first | rw [c34b0] | (simp only [i64_w, i32_w]; rw [c34b0]) | skip)
       obtain rfl := Option.some.inj H
       obtain ⟨_, _, _, _, _, _, _, _, _, _, _, _, _, _⟩ := blk_cells14 BK429.out
       obtain ⟨_, _, _, _, _, _, _, _, _, _, _, _, _, _⟩ := blk_frozen14 BK429.out
       go_wp2_with (first | ((with_reducible refine gate_callee (f := 42) rfl ?_); refine goesY_ (some 32) Try.func42 #[.slice A0_3 l0_3.length c0_3] rfl ?_; (with_reducible refine (impl_RangesFault.calls kj1 _ _ l0_3 t436 _ ?_ ?_ A33.out).mono ?_); exact C_up (Kd.C_below HR0_3.out HB.out); exact HC0_3.out; rintro e w38 ⟨rfl, hb⟩; refine ⟨_, rfl, ?_⟩; replace BK429 := Aside0.mk (blk_below (g := gb429) (blk_up BK429.out) hb); replace HB := Aside0.mk (below_step (HB_up HB.out) hb); (try clear hb)))
       go_ret
       exact ⟨ve_, hs_⟩
     ·
      replace c32 := Bool.eq_false_iff.mpr c32
      subst c32
      (try rw [if_neg (show ¬ (false = true) by decide)] at H)
      have H' := Aside0.mk H
      clear H
      go_wp2
      go_meet
      case rel => exact ⟨_, H', ⟨by have := HJ1.out; first | omega | exact Nat.le_refl _⟩, ⟨blk_up BK429.out⟩, ⟨hs_⟩⟩
    case rest =>
     clear HC29
     try clear hcz30_0
     try clear hcz30_1
     try clear hcz30_10
     try clear hcz30_11
     try clear hcz30_12
     try clear hcz30_13
     try clear hcz30_2
     try clear hcz30_3
     try clear hcz30_4
     try clear hcz30_5
     try clear hcz30_6
     try clear hcz30_7
     try clear hcz30_8
     try clear hcz30_9
     try clear hfz30_0
     try clear hfz30_1
     try clear hfz30_10
     try clear hfz30_11
     try clear hfz30_12
     try clear hfz30_13
     try clear hfz30_2
     try clear hfz30_3
     try clear hfz30_4
     try clear hfz30_5
     try clear hfz30_6
     try clear hfz30_7
     try clear hfz30_8
     try clear hfz30_9
     obtain ⟨kq, HA, HJ28, BK429, HB⟩ := hcut
     cases kq with
     | zero => exact absurd HA.out (by simp [impl_CmdFault.j2])
     | succ kj28 =>
       have H := HA.out
       clear HA
       simp only [impl_CmdFault.j2] at H
       replace H := Option.bind_eq_some_iff.mp H
       obtain ⟨t437, A390, H⟩ := H
       (try dsimp only at H)
       have A39 := Aside0.mk A390
       clear A390
       by_cases c40 : t437 = true
       ·
        subst c40
        (try rw [if_pos rfl] at H)
        replace H := Option.bind_eq_some_iff.mp H
        obtain ⟨t438, A410, H⟩ := H
        (try dsimp only at H)
        have A41 := Aside0.mk A410
        clear A410
        by_cases c42 : t438 = true
        ·
         subst c42
         (try rw [if_pos rfl] at H)
         replace H := Option.bind_eq_some_iff.mp H
         obtain ⟨t439, A430, H⟩ := H
         replace H : (some t439) = some r := H
         have A43 := Aside0.mk A430
         clear A430
         obtain rfl := Option.some.inj H
         obtain ⟨_, _, _, _, _, _, _, _, _, _, _, _, _, _⟩ := blk_cells14 BK429.out
         obtain ⟨_, _, _, _, _, _, _, _, _, _, _, _, _, _⟩ := blk_frozen14 BK429.out
         go_wp2_with (first | ((with_reducible refine gate_callee (f := 43) rfl ?_); refine goesY_ (some 37) Try.func43 #[.agg #[.string a0_0, .int .i64 a0_1, .string a0_2, .slice A0_3 l0_3.length c0_3, .int .i64 a0_4, .int .i64 a0_5, .int .i64 a0_6, .slice A0_7 l0_7.length c0_7, .int .i64 a0_8, .slice A0_9 l0_9.length c0_9, .int .i64 a0_10, .bool a0_11, .slice A0_12 l0_12.length c0_12, .int .i64 a0_13]] rfl ?_; (with_reducible refine (impl_Cmd_areNumbers.calls kj28 a0_0 a0_1 a0_2 _ _ l0_3 a0_4 a0_5 a0_6 _ _ l0_7 a0_8 _ _ l0_9 a0_10 a0_11 _ _ l0_12 a0_13 true _ ?_ ?_ ?_ ?_ ?_ ?_ ?_ ?_ A39.out).mono ?_); exact C_up (Kd.C_below HR0_3.out HB.out); exact HC0_3.out; exact C_up (Kd.C_below HR0_7.out HB.out); exact HC0_7.out; exact C_up (Kd.C_below HR0_9.out HB.out); exact HC0_9.out; exact C_up (Kd.C_below HR0_12.out HB.out); exact HC0_12.out; rintro e w45 ⟨rfl, hb⟩; refine ⟨_, rfl, ?_⟩; replace BK429 := Aside0.mk (blk_below (g := gb429) (blk_up BK429.out) hb); replace HB := Aside0.mk (below_step (HB_up HB.out) hb); (try clear hb); obtain ⟨_, _, _, _, _, _, _, _, _, _, _, _, _, _⟩ := blk_cells14 BK429.out; obtain ⟨_, _, _, _, _, _, _, _, _, _, _, _, _, _⟩ := blk_frozen14 BK429.out) | ((with_reducible refine gate_callee (f := 44) rfl ?_); refine goesY_ (some 40) Try.func44 #[.agg #[.string a0_0, .int .i64 a0_1, .string a0_2, .slice A0_3 l0_3.length c0_3, .int .i64 a0_4, .int .i64 a0_5, .int .i64 a0_6, .slice A0_7 l0_7.length c0_7, .int .i64 a0_8, .slice A0_9 l0_9.length c0_9, .int .i64 a0_10, .bool a0_11, .slice A0_12 l0_12.length c0_12, .int .i64 a0_13]] rfl ?_; (with_reducible refine (impl_Cmd_hasTerms.calls kj28 a0_0 a0_1 a0_2 _ _ l0_3 a0_4 a0_5 a0_6 _ _ l0_7 a0_8 _ _ l0_9 a0_10 a0_11 _ _ l0_12 a0_13 true _ ?_ ?_ ?_ ?_ ?_ ?_ ?_ ?_ A41.out).mono ?_); exact C_up (Kd.C_below HR0_3.out HB.out); exact HC0_3.out; exact C_up (Kd.C_below HR0_7.out HB.out); exact HC0_7.out; exact C_up (Kd.C_below HR0_9.out HB.out); exact HC0_9.out; exact C_up (Kd.C_below HR0_12.out HB.out); exact HC0_12.out; rintro e w47 ⟨rfl, hb⟩; refine ⟨_, rfl, ?_⟩; replace BK429 := Aside0.mk (blk_below (g := gb429) (blk_up BK429.out) hb); replace HB := Aside0.mk (below_step (HB_up HB.out) hb); (try clear hb); obtain ⟨_, _, _, _, _, _, _, _, _, _, _, _, _, _⟩ := blk_cells14 BK429.out; obtain ⟨_, _, _, _, _, _, _, _, _, _, _, _, _, _⟩ := blk_frozen14 BK429.out) | ((with_reducible refine gate_callee (f := 45) rfl ?_); refine goesY_ (some 43) Try.func45 #[.slice A0_12 l0_12.length c0_12] rfl ?_; (with_reducible refine (impl_TermsFault.calls kj28 _ _ l0_12 t439 _ ?_ ?_ A43.out).mono ?_); exact C_up (Kd.C_below HR0_12.out HB.out); exact HC0_12.out; rintro e w49 ⟨rfl, hb⟩; refine ⟨_, rfl, ?_⟩; replace BK429 := Aside0.mk (blk_below (g := gb429) (blk_up BK429.out) hb); replace HB := Aside0.mk (below_step (HB_up HB.out) hb); (try clear hb)))
         go_ret
         exact ⟨ve_, hs_⟩
        ·
         replace c42 := Bool.eq_false_iff.mpr c42
         subst c42
         (try rw [if_neg (show ¬ (false = true) by decide)] at H)
         obtain rfl := Option.some.inj H
         obtain ⟨_, _, _, _, _, _, _, _, _, _, _, _, _, _⟩ := blk_cells14 BK429.out
         obtain ⟨_, _, _, _, _, _, _, _, _, _, _, _, _, _⟩ := blk_frozen14 BK429.out
         go_wp2_with (first | ((with_reducible refine gate_callee (f := 43) rfl ?_); refine goesY_ (some 37) Try.func43 #[.agg #[.string a0_0, .int .i64 a0_1, .string a0_2, .slice A0_3 l0_3.length c0_3, .int .i64 a0_4, .int .i64 a0_5, .int .i64 a0_6, .slice A0_7 l0_7.length c0_7, .int .i64 a0_8, .slice A0_9 l0_9.length c0_9, .int .i64 a0_10, .bool a0_11, .slice A0_12 l0_12.length c0_12, .int .i64 a0_13]] rfl ?_; (with_reducible refine (impl_Cmd_areNumbers.calls kj28 a0_0 a0_1 a0_2 _ _ l0_3 a0_4 a0_5 a0_6 _ _ l0_7 a0_8 _ _ l0_9 a0_10 a0_11 _ _ l0_12 a0_13 true _ ?_ ?_ ?_ ?_ ?_ ?_ ?_ ?_ A39.out).mono ?_); exact C_up (Kd.C_below HR0_3.out HB.out); exact HC0_3.out; exact C_up (Kd.C_below HR0_7.out HB.out); exact HC0_7.out; exact C_up (Kd.C_below HR0_9.out HB.out); exact HC0_9.out; exact C_up (Kd.C_below HR0_12.out HB.out); exact HC0_12.out; rintro e w51 ⟨rfl, hb⟩; refine ⟨_, rfl, ?_⟩; replace BK429 := Aside0.mk (blk_below (g := gb429) (blk_up BK429.out) hb); replace HB := Aside0.mk (below_step (HB_up HB.out) hb); (try clear hb); obtain ⟨_, _, _, _, _, _, _, _, _, _, _, _, _, _⟩ := blk_cells14 BK429.out; obtain ⟨_, _, _, _, _, _, _, _, _, _, _, _, _, _⟩ := blk_frozen14 BK429.out) | ((with_reducible refine gate_callee (f := 44) rfl ?_); refine goesY_ (some 40) Try.func44 #[.agg #[.string a0_0, .int .i64 a0_1, .string a0_2, .slice A0_3 l0_3.length c0_3, .int .i64 a0_4, .int .i64 a0_5, .int .i64 a0_6, .slice A0_7 l0_7.length c0_7, .int .i64 a0_8, .slice A0_9 l0_9.length c0_9, .int .i64 a0_10, .bool a0_11, .slice A0_12 l0_12.length c0_12, .int .i64 a0_13]] rfl ?_; (with_reducible refine (impl_Cmd_hasTerms.calls kj28 a0_0 a0_1 a0_2 _ _ l0_3 a0_4 a0_5 a0_6 _ _ l0_7 a0_8 _ _ l0_9 a0_10 a0_11 _ _ l0_12 a0_13 false _ ?_ ?_ ?_ ?_ ?_ ?_ ?_ ?_ A41.out).mono ?_); exact C_up (Kd.C_below HR0_3.out HB.out); exact HC0_3.out; exact C_up (Kd.C_below HR0_7.out HB.out); exact HC0_7.out; exact C_up (Kd.C_below HR0_9.out HB.out); exact HC0_9.out; exact C_up (Kd.C_below HR0_12.out HB.out); exact HC0_12.out; rintro e w53 ⟨rfl, hb⟩; refine ⟨_, rfl, ?_⟩; replace BK429 := Aside0.mk (blk_below (g := gb429) (blk_up BK429.out) hb); replace HB := Aside0.mk (below_step (HB_up HB.out) hb); (try clear hb)))
         go_ret
         exact ⟨ve_, hs_⟩
       ·
        replace c40 := Bool.eq_false_iff.mpr c40
        subst c40
        (try rw [if_neg (show ¬ (false = true) by decide)] at H)
        obtain rfl := Option.some.inj H
        obtain ⟨_, _, _, _, _, _, _, _, _, _, _, _, _, _⟩ := blk_cells14 BK429.out
        obtain ⟨_, _, _, _, _, _, _, _, _, _, _, _, _, _⟩ := blk_frozen14 BK429.out
        go_wp2_with (first | ((with_reducible refine gate_callee (f := 43) rfl ?_); refine goesY_ (some 37) Try.func43 #[.agg #[.string a0_0, .int .i64 a0_1, .string a0_2, .slice A0_3 l0_3.length c0_3, .int .i64 a0_4, .int .i64 a0_5, .int .i64 a0_6, .slice A0_7 l0_7.length c0_7, .int .i64 a0_8, .slice A0_9 l0_9.length c0_9, .int .i64 a0_10, .bool a0_11, .slice A0_12 l0_12.length c0_12, .int .i64 a0_13]] rfl ?_; (with_reducible refine (impl_Cmd_areNumbers.calls kj28 a0_0 a0_1 a0_2 _ _ l0_3 a0_4 a0_5 a0_6 _ _ l0_7 a0_8 _ _ l0_9 a0_10 a0_11 _ _ l0_12 a0_13 false _ ?_ ?_ ?_ ?_ ?_ ?_ ?_ ?_ A39.out).mono ?_); exact C_up (Kd.C_below HR0_3.out HB.out); exact HC0_3.out; exact C_up (Kd.C_below HR0_7.out HB.out); exact HC0_7.out; exact C_up (Kd.C_below HR0_9.out HB.out); exact HC0_9.out; exact C_up (Kd.C_below HR0_12.out HB.out); exact HC0_12.out; rintro e w55 ⟨rfl, hb⟩; refine ⟨_, rfl, ?_⟩; replace BK429 := Aside0.mk (blk_below (g := gb429) (blk_up BK429.out) hb); replace HB := Aside0.mk (below_step (HB_up HB.out) hb); (try clear hb)))
        go_ret
        exact ⟨ve_, hs_⟩

/-! ### laws_eqRange: function 95 -/
def laws_eqRange.f (a0_0 : Int) (a0_1 : Int) (a1_0 : Int) (a1_1 : Int) : Option (Bool) := if a0_0 = a1_0 then (if a0_1 = a1_1 then (some true) else (none)) else (none)
set_option maxHeartbeats 8000000 in
set_option maxRecDepth 100000 in
theorem laws_eqRange.calls (a0_0 : Int) (a0_1 : Int) (a1_0 : Int) (a1_1 : Int) (r : Bool) (w : World) (h : laws_eqRange.f a0_0 a0_1 a1_0 a1_1 = some r) :
 Calls Try.prog 95 #[.agg #[.int .i64 a0_0, .int .i64 a0_1], .agg #[.int .i64 a1_0, .int .i64 a1_1]] w fun e w' => e = .returned (.bool r) ∧ Below w.heap.size w w' := by
 have hu100 := Try.underlying100
 have HB := Aside0.mk (Below.refl w.heap.size w)
 have H : (if a0_0 = a1_0 then (if a0_1 = a1_1 then (some true) else (none)) else (none)) = some r := h
 clear h
 by_cases c3 : a0_0 = a1_0
 ·
  rw [if_pos c3] at H
  have c3b0 : (a0_0 == a1_0) = true := beq_iff_eq.mpr c3
  have c3b1 : (a0_0 != a1_0) = false := bne_eq_false_iff_eq.mpr c3
  clear c3
  by_cases c4 : a0_1 = a1_1
  ·
   rw [if_pos c4] at H
   have c4b0 : (a0_1 == a1_1) = true := beq_iff_eq.mpr c4
   have c4b1 : (a0_1 != a1_1) = false := bne_eq_false_iff_eq.mpr c4
   clear c4
   obtain rfl := Option.some.inj H
   go_enter Try.func95, Try.ntmps95
   go_wp2_with (first | ((with_reducible refine gate_dst (N := 2) rfl ?_); refine box_event ?hg (N := 2) ?hd (cs := #[.int .i64 a0_0, .int .i64 a0_1]) (t := 100) ?hr ?_; (case hd => rfl); (case hg => rfl); (case hr => first | (go_simp; done) | (go_simp; rfl)); intro gb440 hg w5 hbox hb; have n0_ := Aside0.mk (below_step (HB_up HB.out) hb); have n1_ := Aside0.mk (hbox); have n2_ := Aside0.mk ((by rw [hg]; exact (below_size (HB_up HB.out)) : w.heap.size ≤ gb440)); have n3_ := Aside0.mk ((by rw [hg]; exact (below_size (HB_up HB.out)) : w.heap.size ≤ gb440)); clear HB; have HB := n0_; have BK440 := n1_; have GW440 := n2_; have GE440 := n3_; clear n0_ n1_ n2_ n3_; clear hb hbox hg) | ((with_reducible refine gate_dst (N := 3) rfl ?_); refine box_event ?hg (N := 3) ?hd (cs := #[.int .i64 a1_0, .int .i64 a1_1]) (t := 100) ?hr ?_; (case hd => rfl); (case hg => rfl); (case hr => first | (go_simp; done) | (go_simp; rfl)); intro gb441 hg w6 hbox hb; have n0_ := Aside0.mk (blk_below (g := gb440) (blk_up BK440.out) hb); have n1_ := Aside0.mk (below_step (HB_up HB.out) hb); have n2_ := Aside0.mk (hbox); have n3_ := Aside0.mk ((by rw [hg]; exact (below_size (HB_up HB.out)) : w.heap.size ≤ gb441)); have n4_ := Aside0.mk ((by rw [hg]; exact (below_size (HB_up HB.out)) : w.heap.size ≤ gb441)); have n5_ := Aside0.mk ((by rw [hg]; exact Nat.ne_of_lt (blk_lt (g := gb440) (blk_up BK440.out)) : gb440 ≠ gb441)); have n6_ := Aside0.mk ((by rw [hg]; exact Nat.ne_of_gt (blk_lt (g := gb440) (blk_up BK440.out)) : gb441 ≠ gb440)); clear BK440; clear HB; have BK440 := n0_; have HB := n1_; have BK441 := n2_; have GW441 := n3_; have GE441 := n4_; have NB440_441 := n5_; have NB441_440 := n6_; clear n0_ n1_ n2_ n3_ n4_ n5_ n6_; clear hb hbox hg; have hnb7 := NB440_441.out; have hnc7 := NB441_440.out; have hcz8_0 : w6.cell? ⟨gb440, 0, none⟩ = some (.int .i64 a0_0) := (blk_cell BK440.out 0).trans rfl; have hcz8_1 : w6.cell? ⟨gb440, 1, none⟩ = some (.int .i64 a0_1) := (blk_cell BK440.out 1).trans rfl; have hfz8_0 := blk_frozen BK440.out 0; have hfz8_1 := blk_frozen BK440.out 1; have hcz9_0 : w6.cell? ⟨gb441, 0, none⟩ = some (.int .i64 a1_0) := (blk_cell BK441.out 0).trans rfl; have hcz9_1 : w6.cell? ⟨gb441, 1, none⟩ = some (.int .i64 a1_1) := (blk_cell BK441.out 1).trans rfl; have hfz9_0 := blk_frozen BK441.out 0; have hfz9_1 := blk_frozen BK441.out 1))
   go_ret
   exact ⟨ve_, hs_⟩
  · rw [if_neg c4] at H
    exact absurd H (by simp)
 · rw [if_neg c3] at H
   exact absurd H (by simp)

/-! ### laws_eqRangeS: function 46 -/
def laws_eqRangeS.l0 : Nat → List (S100) → List (S100) → Int → Option (Bool)
 | 0, _, _, _ => none
 | k + 1, x0, x1, x5 => if x5 < (x0.length : Int) then (if 0 ≤ x5 then (if x5 < (x1.length : Int) then ((laws_eqRange.f ((rd_T100 x0 x5).f0) ((rd_T100 x0 x5).f1) ((rd_T100 x1 x5).f0) ((rd_T100 x1 x5).f1)).bind fun t444 => (if t444 = true then (laws_eqRangeS.l0 k x0 x1 (wrap64 (x5 + 1))) else (none))) else (none)) else (none)) else (some true)
def laws_eqRangeS.f (k : Nat) (l0 : List (S100)) (l1 : List (S100)) : Option (Bool) := if (l0.length : Int) = (l1.length : Int) then (laws_eqRangeS.l0 k l0 l1 0) else (none)
def laws_eqRangeS.T6 : Bool × List (List Nat × List Nat) := (true, [([], []), ([], []), ([0, 1], [0, 1]), ([2], [2]), ([], []), ([], []), ([4, 5], [4, 5]), ([6], [6]), ([3, 7], [3, 7]), ([8], [8])])
def laws_eqRangeS.B6 : List Nat := [0, 0, 3, 7, 0, 0, 48, 112, 255, 511]
theorem laws_eqRangeS.tab6 : rtab .any (opsOf Try.f46 6) = laws_eqRangeS.T6 := by kernel_rfl
theorem laws_eqRangeS.bits6 : waitsOk laws_eqRangeS.T6.2 laws_eqRangeS.B6 = true := by kernel_rfl
set_option maxHeartbeats 8000000 in
set_option maxRecDepth 100000 in
theorem laws_eqRangeS.calls (k : Nat) (A0 : Option Addr) (c0 : Nat) (l0 : List (S100)) (A1 : Option Addr) (c1 : Nat) (l1 : List (S100)) (r : Bool) (w : World) (hr0 : Kd.C k100 w A0 l0.length l0) (hc0 : l0.length ≤ c0) (hr1 : Kd.C k100 w A1 l1.length l1) (hc1 : l1.length ≤ c1) (h : laws_eqRangeS.f k l0 l1 = some r) :
 Calls Try.prog 46 #[.slice A0 l0.length c0, .slice A1 l1.length c1] w fun e w' => e = .returned (.bool r) ∧ Below w.heap.size w w' := by
 have hu100 := Try.underlying100
 have HR0 := Aside0.mk hr0
 have HC0 := Aside0.mk hc0
 clear hr0 hc0
 have HR1 := Aside0.mk hr1
 have HC1 := Aside0.mk hc1
 clear hr1 hc1
 have HB := Aside0.mk (Below.refl w.heap.size w)
 have H : (if (l0.length : Int) = (l1.length : Int) then (laws_eqRangeS.l0 k l0 l1 0) else (none)) = some r := h
 clear h
 by_cases c3 : (l0.length : Int) = (l1.length : Int)
 ·
  rw [if_pos c3] at H
  have c3b0 : ((l0.length : Int) == (l1.length : Int)) = true := beq_iff_eq.mpr c3
  have c3b1 : ((l0.length : Int) != (l1.length : Int)) = false := bne_eq_false_iff_eq.mpr c3
  have c3b2 : (l0.length == l1.length) = true := by first | simpa using c3 | (simp at c3 ⊢; omega)
  clear c3
  have H' := Aside0.mk H
  clear H
  go_enter Try.func46, Try.ntmps46
  go_wp2
  go_loopg [5] k (fun kq v5 w' => ∃ (x5_1 : Int), v5 = .int .i64 x5_1 ∧ Aside0 (laws_eqRangeS.l0 kq l0 l1 x5_1 = some r) ∧ Aside0 (kq ≤ k) ∧ Aside0 (Below w.heap.size w w'))
  case atStart => exact ⟨(0), vl_, H', ⟨Nat.le_refl _⟩, ⟨hb_⟩⟩
  case round =>
   clear H'
   try clear c1
   try clear c3
   try clear c3b0
   try clear c3b1
   try clear c3b2
   obtain ⟨x5_1, rfl, HA, HK1, HB⟩ := hrel
   cases gk with
   | zero => exact absurd HA.out (by simp [laws_eqRangeS.l0])
   | succ k1 =>
     have H := HA.out
     clear HA
     simp only [laws_eqRangeS.l0] at H
     by_cases c4 : x5_1 < (l0.length : Int)
     ·
      rw [if_pos c4] at H
      have c4b0 : decide (x5_1 < (l0.length : Int)) = true := decide_eq_true c4
      clear c4
      by_cases c5 : 0 ≤ x5_1
      case neg => rw [if_neg c5] at H; exact absurd H (by simp)
      rw [if_pos c5] at H
      have c5b0 : decide (0 ≤ x5_1) = true := decide_eq_true c5
      clear c5
      by_cases c6 : x5_1 < (l1.length : Int)
      case neg => rw [if_neg c6] at H; exact absurd H (by simp)
      rw [if_pos c6] at H
      have c6b0 : decide (x5_1 < (l1.length : Int)) = true := decide_eq_true c6
      clear c6
      replace H := Option.bind_eq_some_iff.mp H
      obtain ⟨t444, A70, H⟩ := H
      (try dsimp only at H)
      have A7 := Aside0.mk A70
      clear A70
      by_cases c8 : t444 = true
      ·
       subst c8
       (try rw [if_pos rfl] at H)
       have H' := Aside0.mk H
       clear H
       try go_wp2
       replace HB := Aside0.mk (below_drew1 HB.out)
       have p442 : 0 ≤ (x5_1 : Int) := od_
       have q442 : x5_1 < (l0.length : Int) := od_
       obtain ⟨ad442, e442, hx442_0, hx442_1⟩ := at_T100 HR0.out x5_1 p442 q442
       have hw442_1 := hx442_1
       have hw442_0 := hx442_0
       cases e442
       replace hx442_0 := ck_ HB.out hx442_0
       replace hx442_1 := ck_ HB.out hx442_1
       replace p442 := eq_true p442
       replace q442 := eq_true q442
       have p443 : 0 ≤ (x5_1 : Int) := od_
       have q443 : x5_1 < (l1.length : Int) := od_
       obtain ⟨ad443, e443, hx443_0, hx443_1⟩ := at_T100 HR1.out x5_1 p443 q443
       have hw443_1 := hx443_1
       have hw443_0 := hx443_0
       cases e443
       replace hx443_0 := ck_ HB.out hx443_0
       replace hx443_1 := ck_ HB.out hx443_1
       replace p443 := eq_true p443
       replace q443 := eq_true q443
       refine start_ (n := 10) (S := fun w' => w'.cell? (ad442.add ((x5_1).toNat * 2)) = some (.int .i64 ((rd_T100 l0 x5_1).f0)) ∧ w'.cell? ⟨(ad442.add ((x5_1).toNat * 2)).block, (ad442.add ((x5_1).toNat * 2)).off + 1, none⟩ = some (.int .i64 ((rd_T100 l0 x5_1).f1)) ∧ w'.cell? (ad443.add ((x5_1).toNat * 2)) = some (.int .i64 ((rd_T100 l1 x5_1).f0)) ∧ w'.cell? ⟨(ad443.add ((x5_1).toNat * 2)).block, (ad443.add ((x5_1).toNat * 2)).off + 1, none⟩ = some (.int .i64 ((rd_T100 l1 x5_1).f1))) (ds := []) #[false, false, false, false, false, false, false, false, false, false] (by kernel_rfl) rfl rfl ⟨(ck_ HB.out hw442_0), (ck_ HB.out hw442_1), (ck_ HB.out hw443_0), (ck_ HB.out hw443_1)⟩ (fun hHeld => ?_); refine with_tabW laws_eqRangeS.tab6 laws_eqRangeS.bits6 (fun HT_ HW_ => ?_)
       generalize wr.drew = w9 at HB hx442_0 hx442_1 hx443_0 hx443_1 hHeld ⊢
       refine pu_ (i := 0) (N := some 17) (v := ?_) (a' := ?_) rfl rfl (any_of HT_.out (by kernel_rfl)) (fun _ _ _ h => h) (Or.inl ⟨by rfl, ?_⟩) ?_ ?_; rotate_left
       · intro w'; go_simp; all_goals (first | with_reducible rfl | (simp [Instr.field, go_sem]; rfl))
       rotate_left
       · simp only [Act.put, List.setIfInBounds_toArray, List.set_cons_zero, List.set_cons_succ, i64_w, i32_w]; rfl
       refine pu_ (i := 1) (N := some 18) (v := ?_) (a' := ?_) rfl rfl (any_of HT_.out (by kernel_rfl)) (fun _ _ _ h => h) (Or.inl ⟨by rfl, ?_⟩) ?_ ?_; rotate_left
       · intro w'; go_simp; all_goals (first | with_reducible rfl | (simp [Instr.field, go_sem]; rfl))
       rotate_left
       · simp only [Act.put, List.setIfInBounds_toArray, List.set_cons_zero, List.set_cons_succ, i64_w, i32_w]; rfl
       refine pu_ (i := 2) (N := some 19) (v := ?_) (a' := ?_) rfl rfl (any_of HT_.out (by kernel_rfl)) (fun _ _ _ h => h) (Or.inl ⟨by rfl, ?_⟩) ?_ ?_; rotate_left
       · intro w'; go_simp; all_goals (first | with_reducible rfl | (simp [Instr.field, go_sem]; rfl))
       rotate_left
       · simp only [Act.put, List.setIfInBounds_toArray, List.set_cons_zero, List.set_cons_succ, i64_w, i32_w]; rfl
       refine pu_ (i := 4) (N := some 21) (v := ?_) (a' := ?_) rfl rfl (any_of HT_.out (by kernel_rfl)) (fun _ _ _ h => h) (Or.inl ⟨by rfl, ?_⟩) ?_ ?_; rotate_left
       · intro w'; go_simp; all_goals (first | with_reducible rfl | (simp [Instr.field, go_sem]; rfl))
       rotate_left
       · simp only [Act.put, List.setIfInBounds_toArray, List.set_cons_zero, List.set_cons_succ, i64_w, i32_w]; rfl
       refine pu_ (i := 5) (N := some 22) (v := ?_) (a' := ?_) rfl rfl (any_of HT_.out (by kernel_rfl)) (fun _ _ _ h => h) (Or.inl ⟨by rfl, ?_⟩) ?_ ?_; rotate_left
       · intro w'; go_simp; all_goals (first | with_reducible rfl | (simp [Instr.field, go_sem]; rfl))
       rotate_left
       · simp only [Act.put, List.setIfInBounds_toArray, List.set_cons_zero, List.set_cons_succ, i64_w, i32_w]; rfl
       refine pu_ (i := 6) (N := some 23) (v := ?_) (a' := ?_) rfl rfl (any_of HT_.out (by kernel_rfl)) (fun _ _ _ h => h) (Or.inl ⟨by rfl, ?_⟩) ?_ ?_; rotate_left
       · intro w'; go_simp; all_goals (first | with_reducible rfl | (simp [Instr.field, go_sem]; rfl))
       rotate_left
       · simp only [Act.put, List.setIfInBounds_toArray, List.set_cons_zero, List.set_cons_succ, i64_w, i32_w]; rfl
       refine ta_ (i := 3) (N := some 20) (v := ?_) (a' := ?_) rfl rfl (take_ofW HT_.out HW_.out (by kernel_rfl)) (fun _ _ _ h => h) (Or.inl ⟨by rfl, ?_⟩) hHeld ?_ ?_; rotate_left
       · rintro w' ⟨s0, s1, s2, s3⟩; go_simp; all_goals (first | with_reducible rfl | (simp [Instr.field, go_sem]; rfl))
       rotate_left
       · simp only [Act.put, List.setIfInBounds_toArray, List.set_cons_zero, List.set_cons_succ, i64_w, i32_w]; rfl
       refine ta_ (i := 7) (N := some 24) (v := ?_) (a' := ?_) rfl rfl (take_ofW HT_.out HW_.out (by kernel_rfl)) (fun _ _ _ h => h) (Or.inl ⟨by rfl, ?_⟩) hHeld ?_ ?_; rotate_left
       · rintro w' ⟨s0, s1, s2, s3⟩; go_simp; all_goals (first | with_reducible rfl | (simp [Instr.field, go_sem]; rfl))
       rotate_left
       · simp only [Act.put, List.setIfInBounds_toArray, List.set_cons_zero, List.set_cons_succ, i64_w, i32_w]; rfl
       refine on_ (i := 8) (N := some 25) rfl rfl (one_of HT_.out (by kernel_rfl)) (by decide) (fun K hK => ?_)
       refine goes_ Try.func95 (by kernel_rfl) rfl #[.agg #[.int .i64 ((rd_T100 l0 x5_1).f0), .int .i64 ((rd_T100 l0 x5_1).f1)], .agg #[.int .i64 ((rd_T100 l1 x5_1).f0), .int .i64 ((rd_T100 l1 x5_1).f1)]] (by rfl) rfl rfl (by (try simp only [List.map_toArray, List.map_cons, List.map_nil]); first | done | rfl | (simp only [List.length_drop, List.length_take]; rfl)) ?_
       with_reducible refine (laws_eqRange.calls ((rd_T100 l0 x5_1).f0) ((rd_T100 l0 x5_1).f1) ((rd_T100 l1 x5_1).f0) ((rd_T100 l1 x5_1).f1) true _ A7.out).mono ?_
       rintro e w10 ⟨rfl, hb⟩
       refine ⟨_, rfl, ?_⟩
       replace HB := Aside0.mk (below_step (HB_up HB.out) hb)
       (try clear hb)
       refine hK.out _ _ ⟨(ck_ HB.out hw442_0), (ck_ HB.out hw442_1), (ck_ HB.out hw443_0), (ck_ HB.out hw443_1)⟩ (fun hHeld => ?_)
       clear hK K
       refine norm_ (a' := ?_) ?_ ?_
       rotate_left
       · show Act.put _ (some 25) _ = _
         simp only [Act.put, List.setIfInBounds_toArray, List.set_cons_zero, List.set_cons_succ, i64_w, i32_w]
         rfl
       refine pu_ (i := 9) (N := some 26) (v := ?_) (a' := ?_) rfl rfl (any_of HT_.out (by kernel_rfl)) (fun _ _ _ h => h) (Or.inl ⟨by rfl, ?_⟩) ?_ ?_; rotate_left
       · intro w'; go_simp; all_goals (first | with_reducible rfl | (simp [Instr.field, go_sem]; rfl))
       rotate_left
       · simp only [Act.put, List.setIfInBounds_toArray, List.set_cons_zero, List.set_cons_succ, i64_w, i32_w]; rfl
       refine done_ (done_of HT_.out (by kernel_rfl)) ?_
       try go_wp2
       go_roundg k1
       case measure => have := HK1.out; omega
       case rel => exact ⟨(wrap64 (x5_1 + 1)), vl_, H', ⟨by have := HK1.out; omega⟩, ⟨hb_⟩⟩
      · replace c8 := Bool.eq_false_iff.mpr c8
        subst c8
        (try rw [if_neg (show ¬ (false = true) by decide)] at H)
        exact absurd H (by simp)
     ·
      rw [if_neg c4] at H
      have c4b0 : decide (x5_1 < (l0.length : Int)) = false := decide_eq_false c4
      clear c4
      obtain rfl := Option.some.inj H
      go_wp2
      go_ret
      exact ⟨ve_, hb_⟩
 · rw [if_neg c3] at H
   exact absurd H (by simp)

/-! ### laws_eqByteS: function 47 -/
def laws_eqByteS.l0 : Nat → List Int → List Int → Int → Option (Bool)
 | 0, _, _, _ => none
 | k + 1, x0, x1, x5 => if x5 < (x0.length : Int) then (if 0 ≤ x5 then (if x5 < (x1.length : Int) then (if (rd x0 x5) = (rd x1 x5) then (laws_eqByteS.l0 k x0 x1 (wrap64 (x5 + 1))) else (none)) else (none)) else (none)) else (some true)
def laws_eqByteS.f (k : Nat) (l0 : List Int) (l1 : List Int) : Option (Bool) := if (l0.length : Int) = (l1.length : Int) then (laws_eqByteS.l0 k l0 l1 0) else (none)
set_option maxHeartbeats 8000000 in
set_option maxRecDepth 100000 in
theorem laws_eqByteS.calls (k : Nat) (A0 : Option Addr) (c0 : Nat) (l0 : List Int) (A1 : Option Addr) (c1 : Nat) (l1 : List Int) (r : Bool) (w : World) (hr0 : Kd.C (Kd.int .u8) w A0 l0.length l0) (hc0 : l0.length ≤ c0) (hr1 : Kd.C (Kd.int .u8) w A1 l1.length l1) (hc1 : l1.length ≤ c1) (h : laws_eqByteS.f k l0 l1 = some r) :
 Calls Try.prog 47 #[.slice A0 l0.length c0, .slice A1 l1.length c1] w fun e w' => e = .returned (.bool r) ∧ Drawn0 w w' := by
 have HR0 := Aside0.mk hr0
 have HC0 := Aside0.mk hc0
 clear hr0 hc0
 have HR1 := Aside0.mk hr1
 have HC1 := Aside0.mk hc1
 clear hr1 hc1
 have H : (if (l0.length : Int) = (l1.length : Int) then (laws_eqByteS.l0 k l0 l1 0) else (none)) = some r := h
 clear h
 by_cases c3 : (l0.length : Int) = (l1.length : Int)
 ·
  rw [if_pos c3] at H
  have c3b0 : ((l0.length : Int) == (l1.length : Int)) = true := beq_iff_eq.mpr c3
  have c3b1 : ((l0.length : Int) != (l1.length : Int)) = false := bne_eq_false_iff_eq.mpr c3
  have c3b2 : (l0.length == l1.length) = true := by first | simpa using c3 | (simp at c3 ⊢; omega)
  clear c3
  have H' := Aside0.mk H
  clear H
  go_enter Try.func47, Try.ntmps47
  go_wp2
  repeat (go_quiet (fail); try go_wp2)
  go_loopg [5] k (fun kq v5 w' => ∃ (x5_1 : Int), v5 = .int .i64 x5_1 ∧ Aside0 (laws_eqByteS.l0 kq l0 l1 x5_1 = some r) ∧ Aside0 (kq ≤ k) ∧ Drawn0 w w')
  case atStart => exact ⟨(0), vl_, H', ⟨Nat.le_refl _⟩, dr_⟩
  case round =>
   clear H'
   try clear c1
   try clear p2
   try clear c3
   try clear c3b0
   try clear c3b1
   try clear c3b2
   obtain ⟨x5_1, rfl, HA, HK1, ⟨m1, rfl⟩⟩ := hrel
   cases gk with
   | zero => exact absurd HA.out (by simp [laws_eqByteS.l0])
   | succ k1 =>
     have H := HA.out
     clear HA
     simp only [laws_eqByteS.l0] at H
     by_cases c4 : x5_1 < (l0.length : Int)
     ·
      rw [if_pos c4] at H
      have c4b0 : decide (x5_1 < (l0.length : Int)) = true := decide_eq_true c4
      clear c4
      by_cases c5 : 0 ≤ x5_1
      ·
       rw [if_pos c5] at H
       have c5b0 : decide (0 ≤ x5_1) = true := decide_eq_true c5
       clear c5
       by_cases c6 : x5_1 < (l1.length : Int)
       ·
        rw [if_pos c6] at H
        have c6b0 : decide (x5_1 < (l1.length : Int)) = true := decide_eq_true c6
        clear c6
        by_cases c7 : (rd l0 x5_1) = (rd l1 x5_1)
        ·
         rw [if_pos c7] at H
         have c7b0 : ((rd l0 x5_1) == (rd l1 x5_1)) = true := beq_iff_eq.mpr c7
         have c7b1 : ((rd l0 x5_1) != (rd l1 x5_1)) = false := bne_eq_false_iff_eq.mpr c7
         clear c7
         have H' := Aside0.mk H
         clear H
         have p445 : 0 ≤ (x5_1 : Int) := od_
         have q445 : x5_1 < (l0.length : Int) := od_
         obtain ⟨ad445, e445, hx445_0⟩ := Kd.at_int HR0.out x5_1 p445 q445
         cases e445
         replace p445 := eq_true p445
         replace q445 := eq_true q445
         have p446 : 0 ≤ (x5_1 : Int) := od_
         have q446 : x5_1 < (l1.length : Int) := od_
         obtain ⟨ad446, e446, hx446_0⟩ := Kd.at_int HR1.out x5_1 p446 q446
         cases e446
         replace p446 := eq_true p446
         replace q446 := eq_true q446
         go_wp2
         repeat (go_quiet (fail); try go_wp2)
         go_roundg k1
         case measure => have := HK1.out; omega
         case rel => exact ⟨(wrap64 (x5_1 + 1)), vl_, H', ⟨by have := HK1.out; omega⟩, dr_⟩
        · rw [if_neg c7] at H
          exact absurd H (by simp)
       · rw [if_neg c6] at H
         exact absurd H (by simp)
      · rw [if_neg c5] at H
        exact absurd H (by simp)
     ·
      rw [if_neg c4] at H
      have c4b0 : decide (x5_1 < (l0.length : Int)) = false := decide_eq_false c4
      clear c4
      obtain rfl := Option.some.inj H
      go_wp2
      repeat (go_quiet (fail); try go_wp2)
      go_ret
      exact ⟨vl_, dr_⟩
 · rw [if_neg c3] at H
   exact absurd H (by simp)

/-! ### laws_eqInt64S: function 48 -/
def laws_eqInt64S.l0 : Nat → List Int → List Int → Int → Option (Bool)
 | 0, _, _, _ => none
 | k + 1, x0, x1, x5 => if x5 < (x0.length : Int) then (if 0 ≤ x5 then (if x5 < (x1.length : Int) then (if (rd x0 x5) = (rd x1 x5) then (laws_eqInt64S.l0 k x0 x1 (wrap64 (x5 + 1))) else (none)) else (none)) else (none)) else (some true)
def laws_eqInt64S.f (k : Nat) (l0 : List Int) (l1 : List Int) : Option (Bool) := if (l0.length : Int) = (l1.length : Int) then (laws_eqInt64S.l0 k l0 l1 0) else (none)
set_option maxHeartbeats 8000000 in
set_option maxRecDepth 100000 in
theorem laws_eqInt64S.calls (k : Nat) (A0 : Option Addr) (c0 : Nat) (l0 : List Int) (A1 : Option Addr) (c1 : Nat) (l1 : List Int) (r : Bool) (w : World) (hr0 : Kd.C (Kd.int .i64) w A0 l0.length l0) (hc0 : l0.length ≤ c0) (hr1 : Kd.C (Kd.int .i64) w A1 l1.length l1) (hc1 : l1.length ≤ c1) (h : laws_eqInt64S.f k l0 l1 = some r) :
 Calls Try.prog 48 #[.slice A0 l0.length c0, .slice A1 l1.length c1] w fun e w' => e = .returned (.bool r) ∧ Drawn0 w w' := by
 have HR0 := Aside0.mk hr0
 have HC0 := Aside0.mk hc0
 clear hr0 hc0
 have HR1 := Aside0.mk hr1
 have HC1 := Aside0.mk hc1
 clear hr1 hc1
 have H : (if (l0.length : Int) = (l1.length : Int) then (laws_eqInt64S.l0 k l0 l1 0) else (none)) = some r := h
 clear h
 by_cases c3 : (l0.length : Int) = (l1.length : Int)
 ·
  rw [if_pos c3] at H
  have c3b0 : ((l0.length : Int) == (l1.length : Int)) = true := beq_iff_eq.mpr c3
  have c3b1 : ((l0.length : Int) != (l1.length : Int)) = false := bne_eq_false_iff_eq.mpr c3
  have c3b2 : (l0.length == l1.length) = true := by first | simpa using c3 | (simp at c3 ⊢; omega)
  clear c3
  have H' := Aside0.mk H
  clear H
  go_enter Try.func48, Try.ntmps48
  go_wp2
  repeat (go_quiet (fail); try go_wp2)
  go_loopg [5] k (fun kq v5 w' => ∃ (x5_1 : Int), v5 = .int .i64 x5_1 ∧ Aside0 (laws_eqInt64S.l0 kq l0 l1 x5_1 = some r) ∧ Aside0 (kq ≤ k) ∧ Drawn0 w w')
  case atStart => exact ⟨(0), vl_, H', ⟨Nat.le_refl _⟩, dr_⟩
  case round =>
   clear H'
   try clear c1
   try clear p2
   try clear c3
   try clear c3b0
   try clear c3b1
   try clear c3b2
   obtain ⟨x5_1, rfl, HA, HK1, ⟨m1, rfl⟩⟩ := hrel
   cases gk with
   | zero => exact absurd HA.out (by simp [laws_eqInt64S.l0])
   | succ k1 =>
     have H := HA.out
     clear HA
     simp only [laws_eqInt64S.l0] at H
     by_cases c4 : x5_1 < (l0.length : Int)
     ·
      rw [if_pos c4] at H
      have c4b0 : decide (x5_1 < (l0.length : Int)) = true := decide_eq_true c4
      clear c4
      by_cases c5 : 0 ≤ x5_1
      ·
       rw [if_pos c5] at H
       have c5b0 : decide (0 ≤ x5_1) = true := decide_eq_true c5
       clear c5
       by_cases c6 : x5_1 < (l1.length : Int)
       ·
        rw [if_pos c6] at H
        have c6b0 : decide (x5_1 < (l1.length : Int)) = true := decide_eq_true c6
        clear c6
        by_cases c7 : (rd l0 x5_1) = (rd l1 x5_1)
        ·
         rw [if_pos c7] at H
         have c7b0 : ((rd l0 x5_1) == (rd l1 x5_1)) = true := beq_iff_eq.mpr c7
         have c7b1 : ((rd l0 x5_1) != (rd l1 x5_1)) = false := bne_eq_false_iff_eq.mpr c7
         clear c7
         have H' := Aside0.mk H
         clear H
         have p447 : 0 ≤ (x5_1 : Int) := od_
         have q447 : x5_1 < (l0.length : Int) := od_
         obtain ⟨ad447, e447, hx447_0⟩ := Kd.at_int HR0.out x5_1 p447 q447
         cases e447
         replace p447 := eq_true p447
         replace q447 := eq_true q447
         have p448 : 0 ≤ (x5_1 : Int) := od_
         have q448 : x5_1 < (l1.length : Int) := od_
         obtain ⟨ad448, e448, hx448_0⟩ := Kd.at_int HR1.out x5_1 p448 q448
         cases e448
         replace p448 := eq_true p448
         replace q448 := eq_true q448
         go_wp2
         repeat (go_quiet (fail); try go_wp2)
         go_roundg k1
         case measure => have := HK1.out; omega
         case rel => exact ⟨(wrap64 (x5_1 + 1)), vl_, H', ⟨by have := HK1.out; omega⟩, dr_⟩
        · rw [if_neg c7] at H
          exact absurd H (by simp)
       · rw [if_neg c6] at H
         exact absurd H (by simp)
      · rw [if_neg c5] at H
        exact absurd H (by simp)
     ·
      rw [if_neg c4] at H
      have c4b0 : decide (x5_1 < (l0.length : Int)) = false := decide_eq_false c4
      clear c4
      obtain rfl := Option.some.inj H
      go_wp2
      repeat (go_quiet (fail); try go_wp2)
      go_ret
      exact ⟨vl_, dr_⟩
 · rw [if_neg c3] at H
   exact absurd H (by simp)

/-! ### laws_eqTerm: function 96 -/
def laws_eqTerm.f (k : Nat) (a0_0 : Int) (a0_1 : Int) (l0_2 : List Int) (l0_3 : List (S100)) (a0_4 : Int) (a0_5 : Int) (a1_0 : Int) (a1_1 : Int) (l1_2 : List Int) (l1_3 : List (S100)) (a1_4 : Int) (a1_5 : Int) : Option (Bool) := if a0_0 = a1_0 then (if a0_1 = a1_1 then ((laws_eqInt64S.f k l0_2 l1_2).bind fun t451 => (if t451 = true then ((laws_eqRangeS.f k l0_3 l1_3).bind fun t452 => (if t452 = true then (if a0_4 = a1_4 then (if a0_5 = a1_5 then (some true) else (none)) else (none)) else (none))) else (none))) else (none)) else (none)
set_option maxHeartbeats 8000000 in
set_option maxRecDepth 100000 in
theorem laws_eqTerm.calls (k : Nat) (a0_0 : Int) (a0_1 : Int) (A0_2 : Option Addr) (c0_2 : Nat) (l0_2 : List Int) (A0_3 : Option Addr) (c0_3 : Nat) (l0_3 : List (S100)) (a0_4 : Int) (a0_5 : Int) (a1_0 : Int) (a1_1 : Int) (A1_2 : Option Addr) (c1_2 : Nat) (l1_2 : List Int) (A1_3 : Option Addr) (c1_3 : Nat) (l1_3 : List (S100)) (a1_4 : Int) (a1_5 : Int) (r : Bool) (w : World) (hr0_2 : Kd.C (Kd.int .i64) w A0_2 l0_2.length l0_2) (hc0_2 : l0_2.length ≤ c0_2) (hr0_3 : Kd.C k100 w A0_3 l0_3.length l0_3) (hc0_3 : l0_3.length ≤ c0_3) (hr1_2 : Kd.C (Kd.int .i64) w A1_2 l1_2.length l1_2) (hc1_2 : l1_2.length ≤ c1_2) (hr1_3 : Kd.C k100 w A1_3 l1_3.length l1_3) (hc1_3 : l1_3.length ≤ c1_3) (h : laws_eqTerm.f k a0_0 a0_1 l0_2 l0_3 a0_4 a0_5 a1_0 a1_1 l1_2 l1_3 a1_4 a1_5 = some r) :
 Calls Try.prog 96 #[.agg #[.int .i64 a0_0, .int .i64 a0_1, .slice A0_2 l0_2.length c0_2, .slice A0_3 l0_3.length c0_3, .int .i64 a0_4, .int .i64 a0_5], .agg #[.int .i64 a1_0, .int .i64 a1_1, .slice A1_2 l1_2.length c1_2, .slice A1_3 l1_3.length c1_3, .int .i64 a1_4, .int .i64 a1_5]] w fun e w' => e = .returned (.bool r) ∧ Below w.heap.size w w' := by
 have hu104 := Try.underlying104
 have HR0_2 := Aside0.mk hr0_2
 have HC0_2 := Aside0.mk hc0_2
 clear hr0_2 hc0_2
 have HR0_3 := Aside0.mk hr0_3
 have HC0_3 := Aside0.mk hc0_3
 clear hr0_3 hc0_3
 have HR1_2 := Aside0.mk hr1_2
 have HC1_2 := Aside0.mk hc1_2
 clear hr1_2 hc1_2
 have HR1_3 := Aside0.mk hr1_3
 have HC1_3 := Aside0.mk hc1_3
 clear hr1_3 hc1_3
 have HB := Aside0.mk (Below.refl w.heap.size w)
 have H : (if a0_0 = a1_0 then (if a0_1 = a1_1 then ((laws_eqInt64S.f k l0_2 l1_2).bind fun t451 => (if t451 = true then ((laws_eqRangeS.f k l0_3 l1_3).bind fun t452 => (if t452 = true then (if a0_4 = a1_4 then (if a0_5 = a1_5 then (some true) else (none)) else (none)) else (none))) else (none))) else (none)) else (none)) = some r := h
 clear h
 by_cases c3 : a0_0 = a1_0
 ·
  rw [if_pos c3] at H
  have c3b0 : (a0_0 == a1_0) = true := beq_iff_eq.mpr c3
  have c3b1 : (a0_0 != a1_0) = false := bne_eq_false_iff_eq.mpr c3
  clear c3
  by_cases c4 : a0_1 = a1_1
  case neg => rw [if_neg c4] at H; exact absurd H (by simp)
  rw [if_pos c4] at H
  have c4b0 : (a0_1 == a1_1) = true := beq_iff_eq.mpr c4
  have c4b1 : (a0_1 != a1_1) = false := bne_eq_false_iff_eq.mpr c4
  clear c4
  replace H := Option.bind_eq_some_iff.mp H
  obtain ⟨t451, A50, H⟩ := H
  (try dsimp only at H)
  have A5 := Aside0.mk A50
  clear A50
  by_cases c6 : t451 = true
  ·
   subst c6
   (try rw [if_pos rfl] at H)
   replace H := Option.bind_eq_some_iff.mp H
   obtain ⟨t452, A70, H⟩ := H
   (try dsimp only at H)
   have A7 := Aside0.mk A70
   clear A70
   by_cases c8 : t452 = true
   ·
    subst c8
    (try rw [if_pos rfl] at H)
    by_cases c9 : a0_4 = a1_4
    case neg => rw [if_neg c9] at H; exact absurd H (by simp)
    rw [if_pos c9] at H
    have c9b0 : (a0_4 == a1_4) = true := beq_iff_eq.mpr c9
    have c9b1 : (a0_4 != a1_4) = false := bne_eq_false_iff_eq.mpr c9
    clear c9
    by_cases c10 : a0_5 = a1_5
    case neg => rw [if_neg c10] at H; exact absurd H (by simp)
    rw [if_pos c10] at H
    have c10b0 : (a0_5 == a1_5) = true := beq_iff_eq.mpr c10
    have c10b1 : (a0_5 != a1_5) = false := bne_eq_false_iff_eq.mpr c10
    clear c10
    obtain rfl := Option.some.inj H
    go_enter Try.func96, Try.ntmps96
    go_wp2_with (first | ((with_reducible refine gate_dst (N := 2) rfl ?_); refine box_event ?hg (N := 2) ?hd (cs := #[.int .i64 a0_0, .int .i64 a0_1, .slice A0_2 l0_2.length c0_2, .slice A0_3 l0_3.length c0_3, .int .i64 a0_4, .int .i64 a0_5]) (t := 104) ?hr ?_; (case hd => rfl); (case hg => rfl); (case hr => first | (go_simp; done) | (go_simp; rfl)); intro gb449 hg w11 hbox hb; have n0_ := Aside0.mk (below_step (HB_up HB.out) hb); have n1_ := Aside0.mk (hbox); have n2_ := Aside0.mk ((by rw [hg]; exact (below_size (HB_up HB.out)) : w.heap.size ≤ gb449)); have n3_ := Aside0.mk ((by rw [hg]; exact (below_size (HB_up HB.out)) : w.heap.size ≤ gb449)); clear HB; have HB := n0_; have BK449 := n1_; have GW449 := n2_; have GE449 := n3_; clear n0_ n1_ n2_ n3_; clear hb hbox hg) | ((with_reducible refine gate_dst (N := 3) rfl ?_); refine box_event ?hg (N := 3) ?hd (cs := #[.int .i64 a1_0, .int .i64 a1_1, .slice A1_2 l1_2.length c1_2, .slice A1_3 l1_3.length c1_3, .int .i64 a1_4, .int .i64 a1_5]) (t := 104) ?hr ?_; (case hd => rfl); (case hg => rfl); (case hr => first | (go_simp; done) | (go_simp; rfl)); intro gb450 hg w12 hbox hb; have n0_ := Aside0.mk (blk_below (g := gb449) (blk_up BK449.out) hb); have n1_ := Aside0.mk (below_step (HB_up HB.out) hb); have n2_ := Aside0.mk (hbox); have n3_ := Aside0.mk ((by rw [hg]; exact (below_size (HB_up HB.out)) : w.heap.size ≤ gb450)); have n4_ := Aside0.mk ((by rw [hg]; exact (below_size (HB_up HB.out)) : w.heap.size ≤ gb450)); have n5_ := Aside0.mk ((by rw [hg]; exact Nat.ne_of_lt (blk_lt (g := gb449) (blk_up BK449.out)) : gb449 ≠ gb450)); have n6_ := Aside0.mk ((by rw [hg]; exact Nat.ne_of_gt (blk_lt (g := gb449) (blk_up BK449.out)) : gb450 ≠ gb449)); clear BK449; clear HB; have BK449 := n0_; have HB := n1_; have BK450 := n2_; have GW450 := n3_; have GE450 := n4_; have NB449_450 := n5_; have NB450_449 := n6_; clear n0_ n1_ n2_ n3_ n4_ n5_ n6_; clear hb hbox hg; have hnb13 := NB449_450.out; have hnc13 := NB450_449.out; have hcz14_0 : w12.cell? ⟨gb449, 0, none⟩ = some (.int .i64 a0_0) := (blk_cell BK449.out 0).trans rfl; have hcz14_1 : w12.cell? ⟨gb449, 1, none⟩ = some (.int .i64 a0_1) := (blk_cell BK449.out 1).trans rfl; have hcz14_2 : w12.cell? ⟨gb449, 2, none⟩ = some (.slice A0_2 l0_2.length c0_2) := (blk_cell BK449.out 2).trans rfl; have hcz14_3 : w12.cell? ⟨gb449, 3, none⟩ = some (.slice A0_3 l0_3.length c0_3) := (blk_cell BK449.out 3).trans rfl; have hcz14_4 : w12.cell? ⟨gb449, 4, none⟩ = some (.int .i64 a0_4) := (blk_cell BK449.out 4).trans rfl; have hcz14_5 : w12.cell? ⟨gb449, 5, none⟩ = some (.int .i64 a0_5) := (blk_cell BK449.out 5).trans rfl; have hfz14_0 := blk_frozen BK449.out 0; have hfz14_1 := blk_frozen BK449.out 1; have hfz14_2 := blk_frozen BK449.out 2; have hfz14_3 := blk_frozen BK449.out 3; have hfz14_4 := blk_frozen BK449.out 4; have hfz14_5 := blk_frozen BK449.out 5; have hcz15_0 : w12.cell? ⟨gb450, 0, none⟩ = some (.int .i64 a1_0) := (blk_cell BK450.out 0).trans rfl; have hcz15_1 : w12.cell? ⟨gb450, 1, none⟩ = some (.int .i64 a1_1) := (blk_cell BK450.out 1).trans rfl; have hcz15_2 : w12.cell? ⟨gb450, 2, none⟩ = some (.slice A1_2 l1_2.length c1_2) := (blk_cell BK450.out 2).trans rfl; have hcz15_3 : w12.cell? ⟨gb450, 3, none⟩ = some (.slice A1_3 l1_3.length c1_3) := (blk_cell BK450.out 3).trans rfl; have hcz15_4 : w12.cell? ⟨gb450, 4, none⟩ = some (.int .i64 a1_4) := (blk_cell BK450.out 4).trans rfl; have hcz15_5 : w12.cell? ⟨gb450, 5, none⟩ = some (.int .i64 a1_5) := (blk_cell BK450.out 5).trans rfl; have hfz15_0 := blk_frozen BK450.out 0; have hfz15_1 := blk_frozen BK450.out 1; have hfz15_2 := blk_frozen BK450.out 2; have hfz15_3 := blk_frozen BK450.out 3; have hfz15_4 := blk_frozen BK450.out 4; have hfz15_5 := blk_frozen BK450.out 5) | ((with_reducible refine gate_callee (f := 48) rfl ?_); refine goesY_ (some 19) Try.func48 #[.slice A0_2 l0_2.length c0_2, .slice A1_2 l1_2.length c1_2] rfl ?_; (with_reducible refine (laws_eqInt64S.calls k _ _ l0_2 _ _ l1_2 true _ ?_ ?_ ?_ ?_ A5.out).mono ?_); exact C_up (Kd.C_below HR0_2.out HB.out); exact HC0_2.out; exact C_up (Kd.C_below HR1_2.out HB.out); exact HC1_2.out; rintro e w' ⟨rfl, ⟨nd, rfl⟩⟩; refine ⟨_, rfl, ?_⟩) | ((with_reducible refine gate_callee (f := 46) rfl ?_); refine goesY_ (some 25) Try.func46 #[.slice A0_3 l0_3.length c0_3, .slice A1_3 l1_3.length c1_3] rfl ?_; (with_reducible refine (laws_eqRangeS.calls k _ _ l0_3 _ _ l1_3 true _ ?_ ?_ ?_ ?_ A7.out).mono ?_); exact Kd.C_below HR0_3.out (HB_up HB.out); exact HC0_3.out; exact Kd.C_below HR1_3.out (HB_up HB.out); exact HC1_3.out; rintro e w16 ⟨rfl, hb⟩; refine ⟨_, rfl, ?_⟩; replace BK449 := Aside0.mk (blk_below (g := gb449) (blk_up BK449.out) hb); replace BK450 := Aside0.mk (blk_below (g := gb450) (blk_up BK450.out) hb); replace HB := Aside0.mk (below_step (HB_up HB.out) hb); (try clear hb); have hcz17_0 : w16.cell? ⟨gb449, 0, none⟩ = some (.int .i64 a0_0) := (blk_cell BK449.out 0).trans rfl; have hcz17_1 : w16.cell? ⟨gb449, 1, none⟩ = some (.int .i64 a0_1) := (blk_cell BK449.out 1).trans rfl; have hcz17_2 : w16.cell? ⟨gb449, 2, none⟩ = some (.slice A0_2 l0_2.length c0_2) := (blk_cell BK449.out 2).trans rfl; have hcz17_3 : w16.cell? ⟨gb449, 3, none⟩ = some (.slice A0_3 l0_3.length c0_3) := (blk_cell BK449.out 3).trans rfl; have hcz17_4 : w16.cell? ⟨gb449, 4, none⟩ = some (.int .i64 a0_4) := (blk_cell BK449.out 4).trans rfl; have hcz17_5 : w16.cell? ⟨gb449, 5, none⟩ = some (.int .i64 a0_5) := (blk_cell BK449.out 5).trans rfl; have hfz17_0 := blk_frozen BK449.out 0; have hfz17_1 := blk_frozen BK449.out 1; have hfz17_2 := blk_frozen BK449.out 2; have hfz17_3 := blk_frozen BK449.out 3; have hfz17_4 := blk_frozen BK449.out 4; have hfz17_5 := blk_frozen BK449.out 5; have hcz18_0 : w16.cell? ⟨gb450, 0, none⟩ = some (.int .i64 a1_0) := (blk_cell BK450.out 0).trans rfl; have hcz18_1 : w16.cell? ⟨gb450, 1, none⟩ = some (.int .i64 a1_1) := (blk_cell BK450.out 1).trans rfl; have hcz18_2 : w16.cell? ⟨gb450, 2, none⟩ = some (.slice A1_2 l1_2.length c1_2) := (blk_cell BK450.out 2).trans rfl; have hcz18_3 : w16.cell? ⟨gb450, 3, none⟩ = some (.slice A1_3 l1_3.length c1_3) := (blk_cell BK450.out 3).trans rfl; have hcz18_4 : w16.cell? ⟨gb450, 4, none⟩ = some (.int .i64 a1_4) := (blk_cell BK450.out 4).trans rfl; have hcz18_5 : w16.cell? ⟨gb450, 5, none⟩ = some (.int .i64 a1_5) := (blk_cell BK450.out 5).trans rfl; have hfz18_0 := blk_frozen BK450.out 0; have hfz18_1 := blk_frozen BK450.out 1; have hfz18_2 := blk_frozen BK450.out 2; have hfz18_3 := blk_frozen BK450.out 3; have hfz18_4 := blk_frozen BK450.out 4; have hfz18_5 := blk_frozen BK450.out 5))
    go_ret
    exact ⟨ve_, hs_⟩
   · replace c8 := Bool.eq_false_iff.mpr c8
     subst c8
     (try rw [if_neg (show ¬ (false = true) by decide)] at H)
     exact absurd H (by simp)
  · replace c6 := Bool.eq_false_iff.mpr c6
    subst c6
    (try rw [if_neg (show ¬ (false = true) by decide)] at H)
    exact absurd H (by simp)
 · rw [if_neg c3] at H
   exact absurd H (by simp)

end Go.Proofs.Ytnehephjliankaa.PFnExactCmdFault

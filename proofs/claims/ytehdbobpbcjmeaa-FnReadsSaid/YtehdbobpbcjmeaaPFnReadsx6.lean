/- Functions of the program as Lean functions, each with the proof that its call comes to what that function says (texts written by a program of this session). Conditions: those that stand in each theorem. -/
import Derived.Test.YtehdbobpbcjmeaaVFnReadsZ
import Derived.Test.YtehdbobpbcjmeaaPFnReadsx0
import Derived.Test.YtehdbobpbcjmeaaPFnReadsx5
namespace Go.Proofs.Ytehdbobpbcjmeaa.PFnReads
open Go.RowKit Go.Proofs.YtehdbobpbcjmeaaW.PrintWords Go.Proofs.YtehdbobpbcjmeaaW.PrintLast Go.Proofs.YtehdbobpbcjmeaaW.PrintMore
attribute [local go_sem] max2_int min2_int max_two min_two max_three min_three max_four min_four   -- for this text's walks alone
set_option linter.unusedVariables false
set_option linter.unusedSimpArgs false

/-! ### impl_Op_isOnly: function 77 -/
def impl_Op_isOnly.f (a0_0 : Int) (a0_1 : ByteArray) (a0_2 : ByteArray) (l0_3 : List Int) (a0_4 : Int) (a0_5 : Int) (a0_6 : Int) (l0_7 : List Int) : Option (Bool) := (impl_Op_hasTo.f a0_0 a0_1 a0_2 l0_3 a0_4 a0_5 a0_6 l0_7).bind fun t297 => (if t297 = true then ((impl_Op_hasUids.f a0_0 a0_1 a0_2 l0_3 a0_4 a0_5 a0_6 l0_7).bind fun t298 => (if t298 = true then (if a0_0 = 4 then (if a0_0 = 3 then (some true) else (if a0_6 = 0 then (some ((l0_7.length : Int) == 0)) else (some false))) else (if a0_4 = 0 then (if a0_0 = 3 then (some true) else (if a0_5 = 0 then (if a0_6 = 0 then (some ((l0_7.length : Int) == 0)) else (some false)) else (some false))) else (some false))) else (if (l0_3.length : Int) = 0 then (if a0_0 = 4 then (if a0_0 = 3 then (some true) else (if a0_6 = 0 then (some ((l0_7.length : Int) == 0)) else (some false))) else (if a0_4 = 0 then (if a0_0 = 3 then (some true) else (if a0_5 = 0 then (if a0_6 = 0 then (some ((l0_7.length : Int) == 0)) else (some false)) else (some false))) else (some false))) else (some false)))) else (if a0_2.toList = ([] : List UInt8) then ((impl_Op_hasUids.f a0_0 a0_1 a0_2 l0_3 a0_4 a0_5 a0_6 l0_7).bind fun t299 => (if t299 = true then (if a0_0 = 4 then (if a0_0 = 3 then (some true) else (if a0_6 = 0 then (some ((l0_7.length : Int) == 0)) else (some false))) else (if a0_4 = 0 then (if a0_0 = 3 then (some true) else (if a0_5 = 0 then (if a0_6 = 0 then (some ((l0_7.length : Int) == 0)) else (some false)) else (some false))) else (some false))) else (if (l0_3.length : Int) = 0 then (if a0_0 = 4 then (if a0_0 = 3 then (some true) else (if a0_6 = 0 then (some ((l0_7.length : Int) == 0)) else (some false))) else (if a0_4 = 0 then (if a0_0 = 3 then (some true) else (if a0_5 = 0 then (if a0_6 = 0 then (some ((l0_7.length : Int) == 0)) else (some false)) else (some false))) else (some false))) else (some false)))) else (some false)))
def impl_Op_isOnly.Tag (_ : Nat) (p : Prop) : Prop := p
theorem impl_Op_isOnly.Tag.un {n : Nat} {p : Prop} (h : impl_Op_isOnly.Tag n p) : p := h
theorem impl_Op_isOnly.Tag.mk (n : Nat) {p : Prop} (h : p) : impl_Op_isOnly.Tag n p := h
set_option maxHeartbeats 8000000 in
set_option maxRecDepth 100000 in
theorem impl_Op_isOnly.calls (a0_0 : Int) (a0_1 : ByteArray) (a0_2 : ByteArray) (A0_3 : Option Addr) (c0_3 : Nat) (l0_3 : List Int) (a0_4 : Int) (a0_5 : Int) (a0_6 : Int) (A0_7 : Option Addr) (c0_7 : Nat) (l0_7 : List Int) (r : Bool) (w : World) (hr0_3 : Kd.C (Kd.int .i64) w A0_3 l0_3.length l0_3) (hc0_3 : l0_3.length ≤ c0_3) (hr0_7 : Kd.C (Kd.int .u8) w A0_7 l0_7.length l0_7) (hc0_7 : l0_7.length ≤ c0_7) (h : impl_Op_isOnly.f a0_0 a0_1 a0_2 l0_3 a0_4 a0_5 a0_6 l0_7 = some r) :
 Calls Try.prog 77 #[.agg #[.int .i64 a0_0, .string a0_1, .string a0_2, .slice A0_3 l0_3.length c0_3, .int .i64 a0_4, .int .i64 a0_5, .int .i64 a0_6, .slice A0_7 l0_7.length c0_7]] w fun e w' => e = .returned (.bool r) ∧ Below w.heap.size w w' := by
 have hu37 := Try.underlying37; have HR0_3 := Aside0.mk hr0_3; have HC0_3 := Aside0.mk hc0_3; clear hr0_3 hc0_3; have HR0_7 := Aside0.mk hr0_7; have HC0_7 := Aside0.mk hc0_7; clear hr0_7 hc0_7; have HB := Aside0.mk (Below.refl w.heap.size w); have H := h; unfold impl_Op_isOnly.f at H; clear h; obtain ⟨t297, A2, H⟩ := bd_ H; (try dsimp only at H)
 by_cases c3 : t297 = true
 focus
  subst c3; (try rw [if_pos rfl] at H); obtain ⟨t298, A4, H⟩ := bd_ H; (try dsimp only at H)
  by_cases c5 : t298 = true
  focus
   subst c5; (try rw [if_pos rfl] at H)
   by_cases c6 : a0_0 = 4
   focus
    rw [if_pos c6] at H; have c6b0 : (a0_0 == 4) = true := beq_iff_eq.mpr c6; have c6b1 : (a0_0 != 4) = false := bne_eq_false_iff_eq.mpr c6; clear c6
    by_cases c7 : a0_0 = 3
    focus
     rw [if_pos c7] at H; have c7b0 : (a0_0 == 3) = true := beq_iff_eq.mpr c7; have c7b1 : (a0_0 != 3) = false := bne_eq_false_iff_eq.mpr c7; clear c7; obtain rfl := Option.some.inj H; refine impl_Op_isOnly.Tag.un (n := 1) ?_
    rotate_left 1
    focus
     rw [if_neg c7] at H; have c7b0 : (a0_0 == 3) = false := beq_eq_false_iff_ne.mpr c7; have c7b1 : (a0_0 != 3) = true := bne_iff_ne.mpr c7
     by_cases c13 : a0_6 = 0
     focus
      rw [if_pos c13] at H; have c13b0 : (a0_6 == 0) = true := beq_iff_eq.mpr c13; have c13b1 : (a0_6 != 0) = false := bne_eq_false_iff_eq.mpr c13; clear c13; obtain rfl := Option.some.inj H; refine impl_Op_isOnly.Tag.un (n := 2) ?_
     rotate_left 1
     focus
      rw [if_neg c13] at H; have c13b0 : (a0_6 == 0) = false := beq_eq_false_iff_ne.mpr c13; have c13b1 : (a0_6 != 0) = true := bne_iff_ne.mpr c13; obtain rfl := Option.some.inj H; refine impl_Op_isOnly.Tag.un (n := 2) ?_
   rotate_left 3
   focus
    rw [if_neg c6] at H; have c6b0 : (a0_0 == 4) = false := beq_eq_false_iff_ne.mpr c6; have c6b1 : (a0_0 != 4) = true := bne_iff_ne.mpr c6
    by_cases c26 : a0_4 = 0
    focus
     rw [if_pos c26] at H; have c26b0 : (a0_4 == 0) = true := beq_iff_eq.mpr c26; have c26b1 : (a0_4 != 0) = false := bne_eq_false_iff_eq.mpr c26; clear c26
     by_cases c27 : a0_0 = 3
     focus
      rw [if_pos c27] at H; have c27b0 : (a0_0 == 3) = true := beq_iff_eq.mpr c27; have c27b1 : (a0_0 != 3) = false := bne_eq_false_iff_eq.mpr c27; clear c27; obtain rfl := Option.some.inj H; refine impl_Op_isOnly.Tag.un (n := 2) ?_
     rotate_left 1
     focus
      rw [if_neg c27] at H; have c27b0 : (a0_0 == 3) = false := beq_eq_false_iff_ne.mpr c27; have c27b1 : (a0_0 != 3) = true := bne_iff_ne.mpr c27
      by_cases c34 : a0_5 = 0
      focus
       rw [if_pos c34] at H; have c34b0 : (a0_5 == 0) = true := beq_iff_eq.mpr c34; have c34b1 : (a0_5 != 0) = false := bne_eq_false_iff_eq.mpr c34; clear c34
       by_cases c35 : a0_6 = 0
       focus
        rw [if_pos c35] at H; have c35b0 : (a0_6 == 0) = true := beq_iff_eq.mpr c35; have c35b1 : (a0_6 != 0) = false := bne_eq_false_iff_eq.mpr c35; clear c35; obtain rfl := Option.some.inj H; refine impl_Op_isOnly.Tag.un (n := 2) ?_
       rotate_left 1
       focus
        rw [if_neg c35] at H; have c35b0 : (a0_6 == 0) = false := beq_eq_false_iff_ne.mpr c35; have c35b1 : (a0_6 != 0) = true := bne_iff_ne.mpr c35; obtain rfl := Option.some.inj H; refine impl_Op_isOnly.Tag.un (n := 2) ?_
      rotate_left 2
      focus
       rw [if_neg c34] at H; have c34b0 : (a0_5 == 0) = false := beq_eq_false_iff_ne.mpr c34; have c34b1 : (a0_5 != 0) = true := bne_iff_ne.mpr c34; obtain rfl := Option.some.inj H; refine impl_Op_isOnly.Tag.un (n := 2) ?_
    rotate_left 4
    focus
     rw [if_neg c26] at H; have c26b0 : (a0_4 == 0) = false := beq_eq_false_iff_ne.mpr c26; have c26b1 : (a0_4 != 0) = true := bne_iff_ne.mpr c26; obtain rfl := Option.some.inj H; refine impl_Op_isOnly.Tag.un (n := 2) ?_
  rotate_left 8
  focus
   replace c5 := Bool.eq_false_iff.mpr c5; subst c5; (try rw [if_neg (show ¬ (false = true) by decide)] at H)
   by_cases c60 : (l0_3.length : Int) = 0
   focus
    rw [if_pos c60] at H; have c60b0 : ((l0_3.length : Int) == 0) = true := beq_iff_eq.mpr c60; have c60b1 : ((l0_3.length : Int) != 0) = false := bne_eq_false_iff_eq.mpr c60; clear c60
    by_cases c61 : a0_0 = 4
    focus
     rw [if_pos c61] at H; have c61b0 : (a0_0 == 4) = true := beq_iff_eq.mpr c61; have c61b1 : (a0_0 != 4) = false := bne_eq_false_iff_eq.mpr c61; clear c61
     by_cases c62 : a0_0 = 3
     focus
      rw [if_pos c62] at H; have c62b0 : (a0_0 == 3) = true := beq_iff_eq.mpr c62; have c62b1 : (a0_0 != 3) = false := bne_eq_false_iff_eq.mpr c62; clear c62; obtain rfl := Option.some.inj H; refine impl_Op_isOnly.Tag.un (n := 3) ?_
     rotate_left 1
     focus
      rw [if_neg c62] at H; have c62b0 : (a0_0 == 3) = false := beq_eq_false_iff_ne.mpr c62; have c62b1 : (a0_0 != 3) = true := bne_iff_ne.mpr c62
      by_cases c69 : a0_6 = 0
      focus
       rw [if_pos c69] at H; have c69b0 : (a0_6 == 0) = true := beq_iff_eq.mpr c69; have c69b1 : (a0_6 != 0) = false := bne_eq_false_iff_eq.mpr c69; clear c69; obtain rfl := Option.some.inj H; refine impl_Op_isOnly.Tag.un (n := 3) ?_
      rotate_left 1
      focus
       rw [if_neg c69] at H; have c69b0 : (a0_6 == 0) = false := beq_eq_false_iff_ne.mpr c69; have c69b1 : (a0_6 != 0) = true := bne_iff_ne.mpr c69; obtain rfl := Option.some.inj H; refine impl_Op_isOnly.Tag.un (n := 3) ?_
    rotate_left 3
    focus
     rw [if_neg c61] at H; have c61b0 : (a0_0 == 4) = false := beq_eq_false_iff_ne.mpr c61; have c61b1 : (a0_0 != 4) = true := bne_iff_ne.mpr c61
     by_cases c82 : a0_4 = 0
     focus
      rw [if_pos c82] at H; have c82b0 : (a0_4 == 0) = true := beq_iff_eq.mpr c82; have c82b1 : (a0_4 != 0) = false := bne_eq_false_iff_eq.mpr c82; clear c82
      by_cases c83 : a0_0 = 3
      focus
       rw [if_pos c83] at H; have c83b0 : (a0_0 == 3) = true := beq_iff_eq.mpr c83; have c83b1 : (a0_0 != 3) = false := bne_eq_false_iff_eq.mpr c83; clear c83; obtain rfl := Option.some.inj H; refine impl_Op_isOnly.Tag.un (n := 3) ?_
      rotate_left 1
      focus
       rw [if_neg c83] at H; have c83b0 : (a0_0 == 3) = false := beq_eq_false_iff_ne.mpr c83; have c83b1 : (a0_0 != 3) = true := bne_iff_ne.mpr c83
       by_cases c90 : a0_5 = 0
       focus
        rw [if_pos c90] at H; have c90b0 : (a0_5 == 0) = true := beq_iff_eq.mpr c90; have c90b1 : (a0_5 != 0) = false := bne_eq_false_iff_eq.mpr c90; clear c90
        by_cases c91 : a0_6 = 0
        focus
         rw [if_pos c91] at H; have c91b0 : (a0_6 == 0) = true := beq_iff_eq.mpr c91; have c91b1 : (a0_6 != 0) = false := bne_eq_false_iff_eq.mpr c91; clear c91; obtain rfl := Option.some.inj H; refine impl_Op_isOnly.Tag.un (n := 3) ?_
        rotate_left 1
        focus
         rw [if_neg c91] at H; have c91b0 : (a0_6 == 0) = false := beq_eq_false_iff_ne.mpr c91; have c91b1 : (a0_6 != 0) = true := bne_iff_ne.mpr c91; obtain rfl := Option.some.inj H; refine impl_Op_isOnly.Tag.un (n := 3) ?_
       rotate_left 2
       focus
        rw [if_neg c90] at H; have c90b0 : (a0_5 == 0) = false := beq_eq_false_iff_ne.mpr c90; have c90b1 : (a0_5 != 0) = true := bne_iff_ne.mpr c90; obtain rfl := Option.some.inj H; refine impl_Op_isOnly.Tag.un (n := 3) ?_
     rotate_left 4
     focus
      rw [if_neg c82] at H; have c82b0 : (a0_4 == 0) = false := beq_eq_false_iff_ne.mpr c82; have c82b1 : (a0_4 != 0) = true := bne_iff_ne.mpr c82; obtain rfl := Option.some.inj H; refine impl_Op_isOnly.Tag.un (n := 3) ?_
   rotate_left 8
   focus
    rw [if_neg c60] at H; have c60b0 : ((l0_3.length : Int) == 0) = false := beq_eq_false_iff_ne.mpr c60; have c60b1 : ((l0_3.length : Int) != 0) = true := bne_iff_ne.mpr c60
    have c60b2 : ¬ (l0_3 = []) := fun h_ => c60 (by rw [h_]; rfl)
    obtain rfl := Option.some.inj H; refine impl_Op_isOnly.Tag.un (n := 3) ?_
 rotate_left 17
 focus
  replace c3 := Bool.eq_false_iff.mpr c3; subst c3; (try rw [if_neg (show ¬ (false = true) by decide)] at H)
  by_cases c122 : a0_2.toList = ([] : List UInt8)
  focus
   rw [if_pos c122] at H; have c122b0 : (a0_2.toList == ([] : List UInt8)) = true := beq_iff_eq.mpr c122; have c122b1 : (a0_2.toList != ([] : List UInt8)) = false := bne_eq_false_iff_eq.mpr c122; clear c122; obtain ⟨t299, A123, H⟩ := bd_ H; (try dsimp only at H)
   by_cases c124 : t299 = true
   focus
    subst c124; (try rw [if_pos rfl] at H)
    by_cases c125 : a0_0 = 4
    focus
     rw [if_pos c125] at H; have c125b0 : (a0_0 == 4) = true := beq_iff_eq.mpr c125; have c125b1 : (a0_0 != 4) = false := bne_eq_false_iff_eq.mpr c125; clear c125
     by_cases c126 : a0_0 = 3
     focus
      rw [if_pos c126] at H; have c126b0 : (a0_0 == 3) = true := beq_iff_eq.mpr c126; have c126b1 : (a0_0 != 3) = false := bne_eq_false_iff_eq.mpr c126; clear c126; obtain rfl := Option.some.inj H; refine impl_Op_isOnly.Tag.un (n := 4) ?_
     rotate_left 1
     focus
      rw [if_neg c126] at H; have c126b0 : (a0_0 == 3) = false := beq_eq_false_iff_ne.mpr c126; have c126b1 : (a0_0 != 3) = true := bne_iff_ne.mpr c126
      by_cases c132 : a0_6 = 0
      focus
       rw [if_pos c132] at H; have c132b0 : (a0_6 == 0) = true := beq_iff_eq.mpr c132; have c132b1 : (a0_6 != 0) = false := bne_eq_false_iff_eq.mpr c132; clear c132; obtain rfl := Option.some.inj H; refine impl_Op_isOnly.Tag.un (n := 5) ?_
      rotate_left 1
      focus
       rw [if_neg c132] at H; have c132b0 : (a0_6 == 0) = false := beq_eq_false_iff_ne.mpr c132; have c132b1 : (a0_6 != 0) = true := bne_iff_ne.mpr c132; obtain rfl := Option.some.inj H; refine impl_Op_isOnly.Tag.un (n := 5) ?_
    rotate_left 3
    focus
     rw [if_neg c125] at H; have c125b0 : (a0_0 == 4) = false := beq_eq_false_iff_ne.mpr c125; have c125b1 : (a0_0 != 4) = true := bne_iff_ne.mpr c125
     by_cases c145 : a0_4 = 0
     focus
      rw [if_pos c145] at H; have c145b0 : (a0_4 == 0) = true := beq_iff_eq.mpr c145; have c145b1 : (a0_4 != 0) = false := bne_eq_false_iff_eq.mpr c145; clear c145
      by_cases c146 : a0_0 = 3
      focus
       rw [if_pos c146] at H; have c146b0 : (a0_0 == 3) = true := beq_iff_eq.mpr c146; have c146b1 : (a0_0 != 3) = false := bne_eq_false_iff_eq.mpr c146; clear c146; obtain rfl := Option.some.inj H; refine impl_Op_isOnly.Tag.un (n := 5) ?_
      rotate_left 1
      focus
       rw [if_neg c146] at H; have c146b0 : (a0_0 == 3) = false := beq_eq_false_iff_ne.mpr c146; have c146b1 : (a0_0 != 3) = true := bne_iff_ne.mpr c146
       by_cases c153 : a0_5 = 0
       focus
        rw [if_pos c153] at H; have c153b0 : (a0_5 == 0) = true := beq_iff_eq.mpr c153; have c153b1 : (a0_5 != 0) = false := bne_eq_false_iff_eq.mpr c153; clear c153
        by_cases c154 : a0_6 = 0
        focus
         rw [if_pos c154] at H; have c154b0 : (a0_6 == 0) = true := beq_iff_eq.mpr c154; have c154b1 : (a0_6 != 0) = false := bne_eq_false_iff_eq.mpr c154; clear c154; obtain rfl := Option.some.inj H; refine impl_Op_isOnly.Tag.un (n := 5) ?_
        rotate_left 1
        focus
         rw [if_neg c154] at H; have c154b0 : (a0_6 == 0) = false := beq_eq_false_iff_ne.mpr c154; have c154b1 : (a0_6 != 0) = true := bne_iff_ne.mpr c154; obtain rfl := Option.some.inj H; refine impl_Op_isOnly.Tag.un (n := 5) ?_
       rotate_left 2
       focus
        rw [if_neg c153] at H; have c153b0 : (a0_5 == 0) = false := beq_eq_false_iff_ne.mpr c153; have c153b1 : (a0_5 != 0) = true := bne_iff_ne.mpr c153; obtain rfl := Option.some.inj H; refine impl_Op_isOnly.Tag.un (n := 5) ?_
     rotate_left 4
     focus
      rw [if_neg c145] at H; have c145b0 : (a0_4 == 0) = false := beq_eq_false_iff_ne.mpr c145; have c145b1 : (a0_4 != 0) = true := bne_iff_ne.mpr c145; obtain rfl := Option.some.inj H; refine impl_Op_isOnly.Tag.un (n := 5) ?_
   rotate_left 8
   focus
    replace c124 := Bool.eq_false_iff.mpr c124; subst c124; (try rw [if_neg (show ¬ (false = true) by decide)] at H)
    by_cases c179 : (l0_3.length : Int) = 0
    focus
     rw [if_pos c179] at H; have c179b0 : ((l0_3.length : Int) == 0) = true := beq_iff_eq.mpr c179; have c179b1 : ((l0_3.length : Int) != 0) = false := bne_eq_false_iff_eq.mpr c179; clear c179
     by_cases c180 : a0_0 = 4
     focus
      rw [if_pos c180] at H; have c180b0 : (a0_0 == 4) = true := beq_iff_eq.mpr c180; have c180b1 : (a0_0 != 4) = false := bne_eq_false_iff_eq.mpr c180; clear c180
      by_cases c181 : a0_0 = 3
      focus
       rw [if_pos c181] at H; have c181b0 : (a0_0 == 3) = true := beq_iff_eq.mpr c181; have c181b1 : (a0_0 != 3) = false := bne_eq_false_iff_eq.mpr c181; clear c181; obtain rfl := Option.some.inj H; refine impl_Op_isOnly.Tag.un (n := 6) ?_
      rotate_left 1
      focus
       rw [if_neg c181] at H; have c181b0 : (a0_0 == 3) = false := beq_eq_false_iff_ne.mpr c181; have c181b1 : (a0_0 != 3) = true := bne_iff_ne.mpr c181
       by_cases c188 : a0_6 = 0
       focus
        rw [if_pos c188] at H; have c188b0 : (a0_6 == 0) = true := beq_iff_eq.mpr c188; have c188b1 : (a0_6 != 0) = false := bne_eq_false_iff_eq.mpr c188; clear c188; obtain rfl := Option.some.inj H; refine impl_Op_isOnly.Tag.un (n := 6) ?_
       rotate_left 1
       focus
        rw [if_neg c188] at H; have c188b0 : (a0_6 == 0) = false := beq_eq_false_iff_ne.mpr c188; have c188b1 : (a0_6 != 0) = true := bne_iff_ne.mpr c188; obtain rfl := Option.some.inj H; refine impl_Op_isOnly.Tag.un (n := 6) ?_
     rotate_left 3
     focus
      rw [if_neg c180] at H; have c180b0 : (a0_0 == 4) = false := beq_eq_false_iff_ne.mpr c180; have c180b1 : (a0_0 != 4) = true := bne_iff_ne.mpr c180
      by_cases c201 : a0_4 = 0
      focus
       rw [if_pos c201] at H; have c201b0 : (a0_4 == 0) = true := beq_iff_eq.mpr c201; have c201b1 : (a0_4 != 0) = false := bne_eq_false_iff_eq.mpr c201; clear c201
       by_cases c202 : a0_0 = 3
       focus
        rw [if_pos c202] at H; have c202b0 : (a0_0 == 3) = true := beq_iff_eq.mpr c202; have c202b1 : (a0_0 != 3) = false := bne_eq_false_iff_eq.mpr c202; clear c202; obtain rfl := Option.some.inj H; refine impl_Op_isOnly.Tag.un (n := 6) ?_
       rotate_left 1
       focus
        rw [if_neg c202] at H; have c202b0 : (a0_0 == 3) = false := beq_eq_false_iff_ne.mpr c202; have c202b1 : (a0_0 != 3) = true := bne_iff_ne.mpr c202
        by_cases c209 : a0_5 = 0
        focus
         rw [if_pos c209] at H; have c209b0 : (a0_5 == 0) = true := beq_iff_eq.mpr c209; have c209b1 : (a0_5 != 0) = false := bne_eq_false_iff_eq.mpr c209; clear c209
         by_cases c210 : a0_6 = 0
         focus
          rw [if_pos c210] at H; have c210b0 : (a0_6 == 0) = true := beq_iff_eq.mpr c210; have c210b1 : (a0_6 != 0) = false := bne_eq_false_iff_eq.mpr c210; clear c210; obtain rfl := Option.some.inj H; refine impl_Op_isOnly.Tag.un (n := 6) ?_
         rotate_left 1
         focus
          rw [if_neg c210] at H; have c210b0 : (a0_6 == 0) = false := beq_eq_false_iff_ne.mpr c210; have c210b1 : (a0_6 != 0) = true := bne_iff_ne.mpr c210; obtain rfl := Option.some.inj H; refine impl_Op_isOnly.Tag.un (n := 6) ?_
        rotate_left 2
        focus
         rw [if_neg c209] at H; have c209b0 : (a0_5 == 0) = false := beq_eq_false_iff_ne.mpr c209; have c209b1 : (a0_5 != 0) = true := bne_iff_ne.mpr c209; obtain rfl := Option.some.inj H; refine impl_Op_isOnly.Tag.un (n := 6) ?_
      rotate_left 4
      focus
       rw [if_neg c201] at H; have c201b0 : (a0_4 == 0) = false := beq_eq_false_iff_ne.mpr c201; have c201b1 : (a0_4 != 0) = true := bne_iff_ne.mpr c201; obtain rfl := Option.some.inj H; refine impl_Op_isOnly.Tag.un (n := 6) ?_
    rotate_left 8
    focus
     rw [if_neg c179] at H; have c179b0 : ((l0_3.length : Int) == 0) = false := beq_eq_false_iff_ne.mpr c179; have c179b1 : ((l0_3.length : Int) != 0) = true := bne_iff_ne.mpr c179
     have c179b2 : ¬ (l0_3 = []) := fun h_ => c179 (by rw [h_]; rfl)
     obtain rfl := Option.some.inj H; refine impl_Op_isOnly.Tag.un (n := 6) ?_
  rotate_left 17
  focus
   rw [if_neg c122] at H; have c122b0 : (a0_2.toList == ([] : List UInt8)) = false := beq_eq_false_iff_ne.mpr c122; have c122b1 : (a0_2.toList != ([] : List UInt8)) = true := bne_iff_ne.mpr c122; obtain rfl := Option.some.inj H; refine impl_Op_isOnly.Tag.un (n := 7) ?_
 all_goals first
  | (with_reducible refine impl_Op_isOnly.Tag.mk 1 ?_)
    go_enter Try.func77, Try.ntmps77
    go_wp2_with (first | ((with_reducible refine gate_dst (N := 1) rfl ?_); (try (refine gate_guard (by rfl) ?_; dsimp only)); refine box_event ?hg (N := 1) ?hd (cs := #[.int .i64 a0_0, .string a0_1, .string a0_2, .slice A0_3 l0_3.length c0_3, .int .i64 a0_4, .int .i64 a0_5, .int .i64 a0_6, .slice A0_7 l0_7.length c0_7]) (t := 37) ?hr ?_; (case hd => rfl); (case hg => rfl); (case hr => first | (go_simp; done) | (go_simp; rfl)); intro gb296 hg w8 hbox hb; have BK296 := Aside0.mk hbox; have GW296 := gu_ hg HB; have GE296 := gu_ hg HB; replace HB := bs_ HB hb; clear hb hbox hg; obtain ⟨hcz9_0, hcz9_1, hcz9_2, hcz9_3, hcz9_4, hcz9_5, hcz9_6, hcz9_7⟩ := blk_cells8 BK296.out; obtain ⟨hfz9_0, hfz9_1, hfz9_2, hfz9_3, hfz9_4, hfz9_5, hfz9_6, hfz9_7⟩ := blk_frozen8 BK296.out) | (go_at_call 79; (with_reducible refine (impl_Op_hasTo.calls a0_0 a0_1 a0_2 _ _ l0_3 a0_4 a0_5 a0_6 _ _ l0_7 true _ ?_ ?_ ?_ ?_ A2.out).mono ?_); exact C_up (Kd.C_below HR0_3.out HB.out); exact HC0_3.out; exact C_up (Kd.C_below HR0_7.out HB.out); exact HC0_7.out; rintro e w10 ⟨rfl, hb⟩; replace BK296 := bb_ BK296 hb; replace HB := bs_ HB hb; (try clear hb); obtain ⟨hcz11_0, hcz11_1, hcz11_2, hcz11_3, hcz11_4, hcz11_5, hcz11_6, hcz11_7⟩ := blk_cells8 BK296.out; obtain ⟨hfz11_0, hfz11_1, hfz11_2, hfz11_3, hfz11_4, hfz11_5, hfz11_6, hfz11_7⟩ := blk_frozen8 BK296.out) | (go_at_call 100; (with_reducible refine (impl_Op_hasUids.calls a0_0 a0_1 a0_2 _ _ l0_3 a0_4 a0_5 a0_6 _ _ l0_7 true _ ?_ ?_ ?_ ?_ A4.out).mono ?_); exact C_up (Kd.C_below HR0_3.out HB.out); exact HC0_3.out; exact C_up (Kd.C_below HR0_7.out HB.out); exact HC0_7.out; rintro e w12 ⟨rfl, hb⟩; replace BK296 := bb_ BK296 hb; replace HB := bs_ HB hb; (try clear hb)))
    (repeat (go_quiet (first | ((with_reducible refine gate_dst (N := 1) rfl ?_); (try (refine gate_guard (by rfl) ?_; dsimp only)); refine box_event ?hg (N := 1) ?hd (cs := #[.int .i64 a0_0, .string a0_1, .string a0_2, .slice A0_3 l0_3.length c0_3, .int .i64 a0_4, .int .i64 a0_5, .int .i64 a0_6, .slice A0_7 l0_7.length c0_7]) (t := 37) ?hr ?_; (case hd => rfl); (case hg => rfl); (case hr => first | (go_simp; done) | (go_simp; rfl)); intro gb296 hg w8 hbox hb; have BK296 := Aside0.mk hbox; have GW296 := gu_ hg HB; have GE296 := gu_ hg HB; replace HB := bs_ HB hb; clear hb hbox hg; obtain ⟨hcz9_0, hcz9_1, hcz9_2, hcz9_3, hcz9_4, hcz9_5, hcz9_6, hcz9_7⟩ := blk_cells8 BK296.out; obtain ⟨hfz9_0, hfz9_1, hfz9_2, hfz9_3, hfz9_4, hfz9_5, hfz9_6, hfz9_7⟩ := blk_frozen8 BK296.out) | (go_at_call 79; (with_reducible refine (impl_Op_hasTo.calls a0_0 a0_1 a0_2 _ _ l0_3 a0_4 a0_5 a0_6 _ _ l0_7 true _ ?_ ?_ ?_ ?_ A2.out).mono ?_); exact C_up (Kd.C_below HR0_3.out HB.out); exact HC0_3.out; exact C_up (Kd.C_below HR0_7.out HB.out); exact HC0_7.out; rintro e w10 ⟨rfl, hb⟩; replace BK296 := bb_ BK296 hb; replace HB := bs_ HB hb; (try clear hb); obtain ⟨hcz11_0, hcz11_1, hcz11_2, hcz11_3, hcz11_4, hcz11_5, hcz11_6, hcz11_7⟩ := blk_cells8 BK296.out; obtain ⟨hfz11_0, hfz11_1, hfz11_2, hfz11_3, hfz11_4, hfz11_5, hfz11_6, hfz11_7⟩ := blk_frozen8 BK296.out) | (go_at_call 100; (with_reducible refine (impl_Op_hasUids.calls a0_0 a0_1 a0_2 _ _ l0_3 a0_4 a0_5 a0_6 _ _ l0_7 true _ ?_ ?_ ?_ ?_ A4.out).mono ?_); exact C_up (Kd.C_below HR0_3.out HB.out); exact HC0_3.out; exact C_up (Kd.C_below HR0_7.out HB.out); exact HC0_7.out; rintro e w12 ⟨rfl, hb⟩; replace BK296 := bb_ BK296 hb; replace HB := bs_ HB hb; (try clear hb))); try go_wp2_with (first | ((with_reducible refine gate_dst (N := 1) rfl ?_); (try (refine gate_guard (by rfl) ?_; dsimp only)); refine box_event ?hg (N := 1) ?hd (cs := #[.int .i64 a0_0, .string a0_1, .string a0_2, .slice A0_3 l0_3.length c0_3, .int .i64 a0_4, .int .i64 a0_5, .int .i64 a0_6, .slice A0_7 l0_7.length c0_7]) (t := 37) ?hr ?_; (case hd => rfl); (case hg => rfl); (case hr => first | (go_simp; done) | (go_simp; rfl)); intro gb296 hg w8 hbox hb; have BK296 := Aside0.mk hbox; have GW296 := gu_ hg HB; have GE296 := gu_ hg HB; replace HB := bs_ HB hb; clear hb hbox hg; obtain ⟨hcz9_0, hcz9_1, hcz9_2, hcz9_3, hcz9_4, hcz9_5, hcz9_6, hcz9_7⟩ := blk_cells8 BK296.out; obtain ⟨hfz9_0, hfz9_1, hfz9_2, hfz9_3, hfz9_4, hfz9_5, hfz9_6, hfz9_7⟩ := blk_frozen8 BK296.out) | (go_at_call 79; (with_reducible refine (impl_Op_hasTo.calls a0_0 a0_1 a0_2 _ _ l0_3 a0_4 a0_5 a0_6 _ _ l0_7 true _ ?_ ?_ ?_ ?_ A2.out).mono ?_); exact C_up (Kd.C_below HR0_3.out HB.out); exact HC0_3.out; exact C_up (Kd.C_below HR0_7.out HB.out); exact HC0_7.out; rintro e w10 ⟨rfl, hb⟩; replace BK296 := bb_ BK296 hb; replace HB := bs_ HB hb; (try clear hb); obtain ⟨hcz11_0, hcz11_1, hcz11_2, hcz11_3, hcz11_4, hcz11_5, hcz11_6, hcz11_7⟩ := blk_cells8 BK296.out; obtain ⟨hfz11_0, hfz11_1, hfz11_2, hfz11_3, hfz11_4, hfz11_5, hfz11_6, hfz11_7⟩ := blk_frozen8 BK296.out) | (go_at_call 100; (with_reducible refine (impl_Op_hasUids.calls a0_0 a0_1 a0_2 _ _ l0_3 a0_4 a0_5 a0_6 _ _ l0_7 true _ ?_ ?_ ?_ ?_ A4.out).mono ?_); exact C_up (Kd.C_below HR0_3.out HB.out); exact HC0_3.out; exact C_up (Kd.C_below HR0_7.out HB.out); exact HC0_7.out; rintro e w12 ⟨rfl, hb⟩; replace BK296 := bb_ BK296 hb; replace HB := bs_ HB hb; (try clear hb)))))
    go_ret
    exact ⟨ve_, hs_⟩
  | (with_reducible refine impl_Op_isOnly.Tag.mk 2 ?_)
    go_enter Try.func77, Try.ntmps77
    go_wp2_with (first | ((with_reducible refine gate_dst (N := 1) rfl ?_); (try (refine gate_guard (by rfl) ?_; dsimp only)); refine box_event ?hg (N := 1) ?hd (cs := #[.int .i64 a0_0, .string a0_1, .string a0_2, .slice A0_3 l0_3.length c0_3, .int .i64 a0_4, .int .i64 a0_5, .int .i64 a0_6, .slice A0_7 l0_7.length c0_7]) (t := 37) ?hr ?_; (case hd => rfl); (case hg => rfl); (case hr => first | (go_simp; done) | (go_simp; rfl)); intro gb296 hg w14 hbox hb; have BK296 := Aside0.mk hbox; have GW296 := gu_ hg HB; have GE296 := gu_ hg HB; replace HB := bs_ HB hb; clear hb hbox hg; obtain ⟨hcz15_0, hcz15_1, hcz15_2, hcz15_3, hcz15_4, hcz15_5, hcz15_6, hcz15_7⟩ := blk_cells8 BK296.out; obtain ⟨hfz15_0, hfz15_1, hfz15_2, hfz15_3, hfz15_4, hfz15_5, hfz15_6, hfz15_7⟩ := blk_frozen8 BK296.out) | (go_at_call 79; (with_reducible refine (impl_Op_hasTo.calls a0_0 a0_1 a0_2 _ _ l0_3 a0_4 a0_5 a0_6 _ _ l0_7 true _ ?_ ?_ ?_ ?_ A2.out).mono ?_); exact C_up (Kd.C_below HR0_3.out HB.out); exact HC0_3.out; exact C_up (Kd.C_below HR0_7.out HB.out); exact HC0_7.out; rintro e w16 ⟨rfl, hb⟩; replace BK296 := bb_ BK296 hb; replace HB := bs_ HB hb; (try clear hb); obtain ⟨hcz17_0, hcz17_1, hcz17_2, hcz17_3, hcz17_4, hcz17_5, hcz17_6, hcz17_7⟩ := blk_cells8 BK296.out; obtain ⟨hfz17_0, hfz17_1, hfz17_2, hfz17_3, hfz17_4, hfz17_5, hfz17_6, hfz17_7⟩ := blk_frozen8 BK296.out) | (go_at_call 100; (with_reducible refine (impl_Op_hasUids.calls a0_0 a0_1 a0_2 _ _ l0_3 a0_4 a0_5 a0_6 _ _ l0_7 true _ ?_ ?_ ?_ ?_ A4.out).mono ?_); exact C_up (Kd.C_below HR0_3.out HB.out); exact HC0_3.out; exact C_up (Kd.C_below HR0_7.out HB.out); exact HC0_7.out; rintro e w18 ⟨rfl, hb⟩; replace BK296 := bb_ BK296 hb; replace HB := bs_ HB hb; (try clear hb); obtain ⟨hcz19_0, hcz19_1, hcz19_2, hcz19_3, hcz19_4, hcz19_5, hcz19_6, hcz19_7⟩ := blk_cells8 BK296.out; obtain ⟨hfz19_0, hfz19_1, hfz19_2, hfz19_3, hfz19_4, hfz19_5, hfz19_6, hfz19_7⟩ := blk_frozen8 BK296.out))
    (repeat (go_quiet (first | ((with_reducible refine gate_dst (N := 1) rfl ?_); (try (refine gate_guard (by rfl) ?_; dsimp only)); refine box_event ?hg (N := 1) ?hd (cs := #[.int .i64 a0_0, .string a0_1, .string a0_2, .slice A0_3 l0_3.length c0_3, .int .i64 a0_4, .int .i64 a0_5, .int .i64 a0_6, .slice A0_7 l0_7.length c0_7]) (t := 37) ?hr ?_; (case hd => rfl); (case hg => rfl); (case hr => first | (go_simp; done) | (go_simp; rfl)); intro gb296 hg w14 hbox hb; have BK296 := Aside0.mk hbox; have GW296 := gu_ hg HB; have GE296 := gu_ hg HB; replace HB := bs_ HB hb; clear hb hbox hg; obtain ⟨hcz15_0, hcz15_1, hcz15_2, hcz15_3, hcz15_4, hcz15_5, hcz15_6, hcz15_7⟩ := blk_cells8 BK296.out; obtain ⟨hfz15_0, hfz15_1, hfz15_2, hfz15_3, hfz15_4, hfz15_5, hfz15_6, hfz15_7⟩ := blk_frozen8 BK296.out) | (go_at_call 79; (with_reducible refine (impl_Op_hasTo.calls a0_0 a0_1 a0_2 _ _ l0_3 a0_4 a0_5 a0_6 _ _ l0_7 true _ ?_ ?_ ?_ ?_ A2.out).mono ?_); exact C_up (Kd.C_below HR0_3.out HB.out); exact HC0_3.out; exact C_up (Kd.C_below HR0_7.out HB.out); exact HC0_7.out; rintro e w16 ⟨rfl, hb⟩; replace BK296 := bb_ BK296 hb; replace HB := bs_ HB hb; (try clear hb); obtain ⟨hcz17_0, hcz17_1, hcz17_2, hcz17_3, hcz17_4, hcz17_5, hcz17_6, hcz17_7⟩ := blk_cells8 BK296.out; obtain ⟨hfz17_0, hfz17_1, hfz17_2, hfz17_3, hfz17_4, hfz17_5, hfz17_6, hfz17_7⟩ := blk_frozen8 BK296.out) | (go_at_call 100; (with_reducible refine (impl_Op_hasUids.calls a0_0 a0_1 a0_2 _ _ l0_3 a0_4 a0_5 a0_6 _ _ l0_7 true _ ?_ ?_ ?_ ?_ A4.out).mono ?_); exact C_up (Kd.C_below HR0_3.out HB.out); exact HC0_3.out; exact C_up (Kd.C_below HR0_7.out HB.out); exact HC0_7.out; rintro e w18 ⟨rfl, hb⟩; replace BK296 := bb_ BK296 hb; replace HB := bs_ HB hb; (try clear hb); obtain ⟨hcz19_0, hcz19_1, hcz19_2, hcz19_3, hcz19_4, hcz19_5, hcz19_6, hcz19_7⟩ := blk_cells8 BK296.out; obtain ⟨hfz19_0, hfz19_1, hfz19_2, hfz19_3, hfz19_4, hfz19_5, hfz19_6, hfz19_7⟩ := blk_frozen8 BK296.out)); try go_wp2_with (first | ((with_reducible refine gate_dst (N := 1) rfl ?_); (try (refine gate_guard (by rfl) ?_; dsimp only)); refine box_event ?hg (N := 1) ?hd (cs := #[.int .i64 a0_0, .string a0_1, .string a0_2, .slice A0_3 l0_3.length c0_3, .int .i64 a0_4, .int .i64 a0_5, .int .i64 a0_6, .slice A0_7 l0_7.length c0_7]) (t := 37) ?hr ?_; (case hd => rfl); (case hg => rfl); (case hr => first | (go_simp; done) | (go_simp; rfl)); intro gb296 hg w14 hbox hb; have BK296 := Aside0.mk hbox; have GW296 := gu_ hg HB; have GE296 := gu_ hg HB; replace HB := bs_ HB hb; clear hb hbox hg; obtain ⟨hcz15_0, hcz15_1, hcz15_2, hcz15_3, hcz15_4, hcz15_5, hcz15_6, hcz15_7⟩ := blk_cells8 BK296.out; obtain ⟨hfz15_0, hfz15_1, hfz15_2, hfz15_3, hfz15_4, hfz15_5, hfz15_6, hfz15_7⟩ := blk_frozen8 BK296.out) | (go_at_call 79; (with_reducible refine (impl_Op_hasTo.calls a0_0 a0_1 a0_2 _ _ l0_3 a0_4 a0_5 a0_6 _ _ l0_7 true _ ?_ ?_ ?_ ?_ A2.out).mono ?_); exact C_up (Kd.C_below HR0_3.out HB.out); exact HC0_3.out; exact C_up (Kd.C_below HR0_7.out HB.out); exact HC0_7.out; rintro e w16 ⟨rfl, hb⟩; replace BK296 := bb_ BK296 hb; replace HB := bs_ HB hb; (try clear hb); obtain ⟨hcz17_0, hcz17_1, hcz17_2, hcz17_3, hcz17_4, hcz17_5, hcz17_6, hcz17_7⟩ := blk_cells8 BK296.out; obtain ⟨hfz17_0, hfz17_1, hfz17_2, hfz17_3, hfz17_4, hfz17_5, hfz17_6, hfz17_7⟩ := blk_frozen8 BK296.out) | (go_at_call 100; (with_reducible refine (impl_Op_hasUids.calls a0_0 a0_1 a0_2 _ _ l0_3 a0_4 a0_5 a0_6 _ _ l0_7 true _ ?_ ?_ ?_ ?_ A4.out).mono ?_); exact C_up (Kd.C_below HR0_3.out HB.out); exact HC0_3.out; exact C_up (Kd.C_below HR0_7.out HB.out); exact HC0_7.out; rintro e w18 ⟨rfl, hb⟩; replace BK296 := bb_ BK296 hb; replace HB := bs_ HB hb; (try clear hb); obtain ⟨hcz19_0, hcz19_1, hcz19_2, hcz19_3, hcz19_4, hcz19_5, hcz19_6, hcz19_7⟩ := blk_cells8 BK296.out; obtain ⟨hfz19_0, hfz19_1, hfz19_2, hfz19_3, hfz19_4, hfz19_5, hfz19_6, hfz19_7⟩ := blk_frozen8 BK296.out))))
    go_ret
    exact ⟨ve_, hs_⟩
  | (with_reducible refine impl_Op_isOnly.Tag.mk 3 ?_)
    go_enter Try.func77, Try.ntmps77
    go_wp2_with (first | ((with_reducible refine gate_dst (N := 1) rfl ?_); (try (refine gate_guard (by rfl) ?_; dsimp only)); refine box_event ?hg (N := 1) ?hd (cs := #[.int .i64 a0_0, .string a0_1, .string a0_2, .slice A0_3 l0_3.length c0_3, .int .i64 a0_4, .int .i64 a0_5, .int .i64 a0_6, .slice A0_7 l0_7.length c0_7]) (t := 37) ?hr ?_; (case hd => rfl); (case hg => rfl); (case hr => first | (go_simp; done) | (go_simp; rfl)); intro gb296 hg w63 hbox hb; have BK296 := Aside0.mk hbox; have GW296 := gu_ hg HB; have GE296 := gu_ hg HB; replace HB := bs_ HB hb; clear hb hbox hg; obtain ⟨hcz64_0, hcz64_1, hcz64_2, hcz64_3, hcz64_4, hcz64_5, hcz64_6, hcz64_7⟩ := blk_cells8 BK296.out; obtain ⟨hfz64_0, hfz64_1, hfz64_2, hfz64_3, hfz64_4, hfz64_5, hfz64_6, hfz64_7⟩ := blk_frozen8 BK296.out) | (go_at_call 79; (with_reducible refine (impl_Op_hasTo.calls a0_0 a0_1 a0_2 _ _ l0_3 a0_4 a0_5 a0_6 _ _ l0_7 true _ ?_ ?_ ?_ ?_ A2.out).mono ?_); exact C_up (Kd.C_below HR0_3.out HB.out); exact HC0_3.out; exact C_up (Kd.C_below HR0_7.out HB.out); exact HC0_7.out; rintro e w65 ⟨rfl, hb⟩; replace BK296 := bb_ BK296 hb; replace HB := bs_ HB hb; (try clear hb); obtain ⟨hcz66_0, hcz66_1, hcz66_2, hcz66_3, hcz66_4, hcz66_5, hcz66_6, hcz66_7⟩ := blk_cells8 BK296.out; obtain ⟨hfz66_0, hfz66_1, hfz66_2, hfz66_3, hfz66_4, hfz66_5, hfz66_6, hfz66_7⟩ := blk_frozen8 BK296.out) | (go_at_call 100; (with_reducible refine (impl_Op_hasUids.calls a0_0 a0_1 a0_2 _ _ l0_3 a0_4 a0_5 a0_6 _ _ l0_7 false _ ?_ ?_ ?_ ?_ A4.out).mono ?_); exact C_up (Kd.C_below HR0_3.out HB.out); exact HC0_3.out; exact C_up (Kd.C_below HR0_7.out HB.out); exact HC0_7.out; rintro e w67 ⟨rfl, hb⟩; replace BK296 := bb_ BK296 hb; replace HB := bs_ HB hb; (try clear hb); obtain ⟨hcz68_0, hcz68_1, hcz68_2, hcz68_3, hcz68_4, hcz68_5, hcz68_6, hcz68_7⟩ := blk_cells8 BK296.out; obtain ⟨hfz68_0, hfz68_1, hfz68_2, hfz68_3, hfz68_4, hfz68_5, hfz68_6, hfz68_7⟩ := blk_frozen8 BK296.out))
    (repeat (go_quiet (first | ((with_reducible refine gate_dst (N := 1) rfl ?_); (try (refine gate_guard (by rfl) ?_; dsimp only)); refine box_event ?hg (N := 1) ?hd (cs := #[.int .i64 a0_0, .string a0_1, .string a0_2, .slice A0_3 l0_3.length c0_3, .int .i64 a0_4, .int .i64 a0_5, .int .i64 a0_6, .slice A0_7 l0_7.length c0_7]) (t := 37) ?hr ?_; (case hd => rfl); (case hg => rfl); (case hr => first | (go_simp; done) | (go_simp; rfl)); intro gb296 hg w63 hbox hb; have BK296 := Aside0.mk hbox; have GW296 := gu_ hg HB; have GE296 := gu_ hg HB; replace HB := bs_ HB hb; clear hb hbox hg; obtain ⟨hcz64_0, hcz64_1, hcz64_2, hcz64_3, hcz64_4, hcz64_5, hcz64_6, hcz64_7⟩ := blk_cells8 BK296.out; obtain ⟨hfz64_0, hfz64_1, hfz64_2, hfz64_3, hfz64_4, hfz64_5, hfz64_6, hfz64_7⟩ := blk_frozen8 BK296.out) | (go_at_call 79; (with_reducible refine (impl_Op_hasTo.calls a0_0 a0_1 a0_2 _ _ l0_3 a0_4 a0_5 a0_6 _ _ l0_7 true _ ?_ ?_ ?_ ?_ A2.out).mono ?_); exact C_up (Kd.C_below HR0_3.out HB.out); exact HC0_3.out; exact C_up (Kd.C_below HR0_7.out HB.out); exact HC0_7.out; rintro e w65 ⟨rfl, hb⟩; replace BK296 := bb_ BK296 hb; replace HB := bs_ HB hb; (try clear hb); obtain ⟨hcz66_0, hcz66_1, hcz66_2, hcz66_3, hcz66_4, hcz66_5, hcz66_6, hcz66_7⟩ := blk_cells8 BK296.out; obtain ⟨hfz66_0, hfz66_1, hfz66_2, hfz66_3, hfz66_4, hfz66_5, hfz66_6, hfz66_7⟩ := blk_frozen8 BK296.out) | (go_at_call 100; (with_reducible refine (impl_Op_hasUids.calls a0_0 a0_1 a0_2 _ _ l0_3 a0_4 a0_5 a0_6 _ _ l0_7 false _ ?_ ?_ ?_ ?_ A4.out).mono ?_); exact C_up (Kd.C_below HR0_3.out HB.out); exact HC0_3.out; exact C_up (Kd.C_below HR0_7.out HB.out); exact HC0_7.out; rintro e w67 ⟨rfl, hb⟩; replace BK296 := bb_ BK296 hb; replace HB := bs_ HB hb; (try clear hb); obtain ⟨hcz68_0, hcz68_1, hcz68_2, hcz68_3, hcz68_4, hcz68_5, hcz68_6, hcz68_7⟩ := blk_cells8 BK296.out; obtain ⟨hfz68_0, hfz68_1, hfz68_2, hfz68_3, hfz68_4, hfz68_5, hfz68_6, hfz68_7⟩ := blk_frozen8 BK296.out)); try go_wp2_with (first | ((with_reducible refine gate_dst (N := 1) rfl ?_); (try (refine gate_guard (by rfl) ?_; dsimp only)); refine box_event ?hg (N := 1) ?hd (cs := #[.int .i64 a0_0, .string a0_1, .string a0_2, .slice A0_3 l0_3.length c0_3, .int .i64 a0_4, .int .i64 a0_5, .int .i64 a0_6, .slice A0_7 l0_7.length c0_7]) (t := 37) ?hr ?_; (case hd => rfl); (case hg => rfl); (case hr => first | (go_simp; done) | (go_simp; rfl)); intro gb296 hg w63 hbox hb; have BK296 := Aside0.mk hbox; have GW296 := gu_ hg HB; have GE296 := gu_ hg HB; replace HB := bs_ HB hb; clear hb hbox hg; obtain ⟨hcz64_0, hcz64_1, hcz64_2, hcz64_3, hcz64_4, hcz64_5, hcz64_6, hcz64_7⟩ := blk_cells8 BK296.out; obtain ⟨hfz64_0, hfz64_1, hfz64_2, hfz64_3, hfz64_4, hfz64_5, hfz64_6, hfz64_7⟩ := blk_frozen8 BK296.out) | (go_at_call 79; (with_reducible refine (impl_Op_hasTo.calls a0_0 a0_1 a0_2 _ _ l0_3 a0_4 a0_5 a0_6 _ _ l0_7 true _ ?_ ?_ ?_ ?_ A2.out).mono ?_); exact C_up (Kd.C_below HR0_3.out HB.out); exact HC0_3.out; exact C_up (Kd.C_below HR0_7.out HB.out); exact HC0_7.out; rintro e w65 ⟨rfl, hb⟩; replace BK296 := bb_ BK296 hb; replace HB := bs_ HB hb; (try clear hb); obtain ⟨hcz66_0, hcz66_1, hcz66_2, hcz66_3, hcz66_4, hcz66_5, hcz66_6, hcz66_7⟩ := blk_cells8 BK296.out; obtain ⟨hfz66_0, hfz66_1, hfz66_2, hfz66_3, hfz66_4, hfz66_5, hfz66_6, hfz66_7⟩ := blk_frozen8 BK296.out) | (go_at_call 100; (with_reducible refine (impl_Op_hasUids.calls a0_0 a0_1 a0_2 _ _ l0_3 a0_4 a0_5 a0_6 _ _ l0_7 false _ ?_ ?_ ?_ ?_ A4.out).mono ?_); exact C_up (Kd.C_below HR0_3.out HB.out); exact HC0_3.out; exact C_up (Kd.C_below HR0_7.out HB.out); exact HC0_7.out; rintro e w67 ⟨rfl, hb⟩; replace BK296 := bb_ BK296 hb; replace HB := bs_ HB hb; (try clear hb); obtain ⟨hcz68_0, hcz68_1, hcz68_2, hcz68_3, hcz68_4, hcz68_5, hcz68_6, hcz68_7⟩ := blk_cells8 BK296.out; obtain ⟨hfz68_0, hfz68_1, hfz68_2, hfz68_3, hfz68_4, hfz68_5, hfz68_6, hfz68_7⟩ := blk_frozen8 BK296.out))))
    go_ret
    exact ⟨ve_, hs_⟩
  | (with_reducible refine impl_Op_isOnly.Tag.mk 4 ?_)
    go_enter Try.func77, Try.ntmps77
    go_wp2_with (first | ((with_reducible refine gate_dst (N := 1) rfl ?_); (try (refine gate_guard (by rfl) ?_; dsimp only)); refine box_event ?hg (N := 1) ?hd (cs := #[.int .i64 a0_0, .string a0_1, .string a0_2, .slice A0_3 l0_3.length c0_3, .int .i64 a0_4, .int .i64 a0_5, .int .i64 a0_6, .slice A0_7 l0_7.length c0_7]) (t := 37) ?hr ?_; (case hd => rfl); (case hg => rfl); (case hr => first | (go_simp; done) | (go_simp; rfl)); intro gb296 hg w127 hbox hb; have BK296 := Aside0.mk hbox; have GW296 := gu_ hg HB; have GE296 := gu_ hg HB; replace HB := bs_ HB hb; clear hb hbox hg; obtain ⟨hcz128_0, hcz128_1, hcz128_2, hcz128_3, hcz128_4, hcz128_5, hcz128_6, hcz128_7⟩ := blk_cells8 BK296.out; obtain ⟨hfz128_0, hfz128_1, hfz128_2, hfz128_3, hfz128_4, hfz128_5, hfz128_6, hfz128_7⟩ := blk_frozen8 BK296.out) | (go_at_call 79; (with_reducible refine (impl_Op_hasTo.calls a0_0 a0_1 a0_2 _ _ l0_3 a0_4 a0_5 a0_6 _ _ l0_7 false _ ?_ ?_ ?_ ?_ A2.out).mono ?_); exact C_up (Kd.C_below HR0_3.out HB.out); exact HC0_3.out; exact C_up (Kd.C_below HR0_7.out HB.out); exact HC0_7.out; rintro e w129 ⟨rfl, hb⟩; replace BK296 := bb_ BK296 hb; replace HB := bs_ HB hb; (try clear hb); obtain ⟨hcz130_0, hcz130_1, hcz130_2, hcz130_3, hcz130_4, hcz130_5, hcz130_6, hcz130_7⟩ := blk_cells8 BK296.out; obtain ⟨hfz130_0, hfz130_1, hfz130_2, hfz130_3, hfz130_4, hfz130_5, hfz130_6, hfz130_7⟩ := blk_frozen8 BK296.out) | (go_at_call 100; (with_reducible refine (impl_Op_hasUids.calls a0_0 a0_1 a0_2 _ _ l0_3 a0_4 a0_5 a0_6 _ _ l0_7 true _ ?_ ?_ ?_ ?_ A123.out).mono ?_); exact C_up (Kd.C_below HR0_3.out HB.out); exact HC0_3.out; exact C_up (Kd.C_below HR0_7.out HB.out); exact HC0_7.out; rintro e w131 ⟨rfl, hb⟩; replace BK296 := bb_ BK296 hb; replace HB := bs_ HB hb; (try clear hb)))
    (repeat (go_quiet (first | ((with_reducible refine gate_dst (N := 1) rfl ?_); (try (refine gate_guard (by rfl) ?_; dsimp only)); refine box_event ?hg (N := 1) ?hd (cs := #[.int .i64 a0_0, .string a0_1, .string a0_2, .slice A0_3 l0_3.length c0_3, .int .i64 a0_4, .int .i64 a0_5, .int .i64 a0_6, .slice A0_7 l0_7.length c0_7]) (t := 37) ?hr ?_; (case hd => rfl); (case hg => rfl); (case hr => first | (go_simp; done) | (go_simp; rfl)); intro gb296 hg w127 hbox hb; have BK296 := Aside0.mk hbox; have GW296 := gu_ hg HB; have GE296 := gu_ hg HB; replace HB := bs_ HB hb; clear hb hbox hg; obtain ⟨hcz128_0, hcz128_1, hcz128_2, hcz128_3, hcz128_4, hcz128_5, hcz128_6, hcz128_7⟩ := blk_cells8 BK296.out; obtain ⟨hfz128_0, hfz128_1, hfz128_2, hfz128_3, hfz128_4, hfz128_5, hfz128_6, hfz128_7⟩ := blk_frozen8 BK296.out) | (go_at_call 79; (with_reducible refine (impl_Op_hasTo.calls a0_0 a0_1 a0_2 _ _ l0_3 a0_4 a0_5 a0_6 _ _ l0_7 false _ ?_ ?_ ?_ ?_ A2.out).mono ?_); exact C_up (Kd.C_below HR0_3.out HB.out); exact HC0_3.out; exact C_up (Kd.C_below HR0_7.out HB.out); exact HC0_7.out; rintro e w129 ⟨rfl, hb⟩; replace BK296 := bb_ BK296 hb; replace HB := bs_ HB hb; (try clear hb); obtain ⟨hcz130_0, hcz130_1, hcz130_2, hcz130_3, hcz130_4, hcz130_5, hcz130_6, hcz130_7⟩ := blk_cells8 BK296.out; obtain ⟨hfz130_0, hfz130_1, hfz130_2, hfz130_3, hfz130_4, hfz130_5, hfz130_6, hfz130_7⟩ := blk_frozen8 BK296.out) | (go_at_call 100; (with_reducible refine (impl_Op_hasUids.calls a0_0 a0_1 a0_2 _ _ l0_3 a0_4 a0_5 a0_6 _ _ l0_7 true _ ?_ ?_ ?_ ?_ A123.out).mono ?_); exact C_up (Kd.C_below HR0_3.out HB.out); exact HC0_3.out; exact C_up (Kd.C_below HR0_7.out HB.out); exact HC0_7.out; rintro e w131 ⟨rfl, hb⟩; replace BK296 := bb_ BK296 hb; replace HB := bs_ HB hb; (try clear hb))); try go_wp2_with (first | ((with_reducible refine gate_dst (N := 1) rfl ?_); (try (refine gate_guard (by rfl) ?_; dsimp only)); refine box_event ?hg (N := 1) ?hd (cs := #[.int .i64 a0_0, .string a0_1, .string a0_2, .slice A0_3 l0_3.length c0_3, .int .i64 a0_4, .int .i64 a0_5, .int .i64 a0_6, .slice A0_7 l0_7.length c0_7]) (t := 37) ?hr ?_; (case hd => rfl); (case hg => rfl); (case hr => first | (go_simp; done) | (go_simp; rfl)); intro gb296 hg w127 hbox hb; have BK296 := Aside0.mk hbox; have GW296 := gu_ hg HB; have GE296 := gu_ hg HB; replace HB := bs_ HB hb; clear hb hbox hg; obtain ⟨hcz128_0, hcz128_1, hcz128_2, hcz128_3, hcz128_4, hcz128_5, hcz128_6, hcz128_7⟩ := blk_cells8 BK296.out; obtain ⟨hfz128_0, hfz128_1, hfz128_2, hfz128_3, hfz128_4, hfz128_5, hfz128_6, hfz128_7⟩ := blk_frozen8 BK296.out) | (go_at_call 79; (with_reducible refine (impl_Op_hasTo.calls a0_0 a0_1 a0_2 _ _ l0_3 a0_4 a0_5 a0_6 _ _ l0_7 false _ ?_ ?_ ?_ ?_ A2.out).mono ?_); exact C_up (Kd.C_below HR0_3.out HB.out); exact HC0_3.out; exact C_up (Kd.C_below HR0_7.out HB.out); exact HC0_7.out; rintro e w129 ⟨rfl, hb⟩; replace BK296 := bb_ BK296 hb; replace HB := bs_ HB hb; (try clear hb); obtain ⟨hcz130_0, hcz130_1, hcz130_2, hcz130_3, hcz130_4, hcz130_5, hcz130_6, hcz130_7⟩ := blk_cells8 BK296.out; obtain ⟨hfz130_0, hfz130_1, hfz130_2, hfz130_3, hfz130_4, hfz130_5, hfz130_6, hfz130_7⟩ := blk_frozen8 BK296.out) | (go_at_call 100; (with_reducible refine (impl_Op_hasUids.calls a0_0 a0_1 a0_2 _ _ l0_3 a0_4 a0_5 a0_6 _ _ l0_7 true _ ?_ ?_ ?_ ?_ A123.out).mono ?_); exact C_up (Kd.C_below HR0_3.out HB.out); exact HC0_3.out; exact C_up (Kd.C_below HR0_7.out HB.out); exact HC0_7.out; rintro e w131 ⟨rfl, hb⟩; replace BK296 := bb_ BK296 hb; replace HB := bs_ HB hb; (try clear hb)))))
    go_ret
    exact ⟨ve_, hs_⟩
  | (with_reducible refine impl_Op_isOnly.Tag.mk 5 ?_)
    go_enter Try.func77, Try.ntmps77
    go_wp2_with (first | ((with_reducible refine gate_dst (N := 1) rfl ?_); (try (refine gate_guard (by rfl) ?_; dsimp only)); refine box_event ?hg (N := 1) ?hd (cs := #[.int .i64 a0_0, .string a0_1, .string a0_2, .slice A0_3 l0_3.length c0_3, .int .i64 a0_4, .int .i64 a0_5, .int .i64 a0_6, .slice A0_7 l0_7.length c0_7]) (t := 37) ?hr ?_; (case hd => rfl); (case hg => rfl); (case hr => first | (go_simp; done) | (go_simp; rfl)); intro gb296 hg w133 hbox hb; have BK296 := Aside0.mk hbox; have GW296 := gu_ hg HB; have GE296 := gu_ hg HB; replace HB := bs_ HB hb; clear hb hbox hg; obtain ⟨hcz134_0, hcz134_1, hcz134_2, hcz134_3, hcz134_4, hcz134_5, hcz134_6, hcz134_7⟩ := blk_cells8 BK296.out; obtain ⟨hfz134_0, hfz134_1, hfz134_2, hfz134_3, hfz134_4, hfz134_5, hfz134_6, hfz134_7⟩ := blk_frozen8 BK296.out) | (go_at_call 79; (with_reducible refine (impl_Op_hasTo.calls a0_0 a0_1 a0_2 _ _ l0_3 a0_4 a0_5 a0_6 _ _ l0_7 false _ ?_ ?_ ?_ ?_ A2.out).mono ?_); exact C_up (Kd.C_below HR0_3.out HB.out); exact HC0_3.out; exact C_up (Kd.C_below HR0_7.out HB.out); exact HC0_7.out; rintro e w135 ⟨rfl, hb⟩; replace BK296 := bb_ BK296 hb; replace HB := bs_ HB hb; (try clear hb); obtain ⟨hcz136_0, hcz136_1, hcz136_2, hcz136_3, hcz136_4, hcz136_5, hcz136_6, hcz136_7⟩ := blk_cells8 BK296.out; obtain ⟨hfz136_0, hfz136_1, hfz136_2, hfz136_3, hfz136_4, hfz136_5, hfz136_6, hfz136_7⟩ := blk_frozen8 BK296.out) | (go_at_call 100; (with_reducible refine (impl_Op_hasUids.calls a0_0 a0_1 a0_2 _ _ l0_3 a0_4 a0_5 a0_6 _ _ l0_7 true _ ?_ ?_ ?_ ?_ A123.out).mono ?_); exact C_up (Kd.C_below HR0_3.out HB.out); exact HC0_3.out; exact C_up (Kd.C_below HR0_7.out HB.out); exact HC0_7.out; rintro e w137 ⟨rfl, hb⟩; replace BK296 := bb_ BK296 hb; replace HB := bs_ HB hb; (try clear hb); obtain ⟨hcz138_0, hcz138_1, hcz138_2, hcz138_3, hcz138_4, hcz138_5, hcz138_6, hcz138_7⟩ := blk_cells8 BK296.out; obtain ⟨hfz138_0, hfz138_1, hfz138_2, hfz138_3, hfz138_4, hfz138_5, hfz138_6, hfz138_7⟩ := blk_frozen8 BK296.out))
    (repeat (go_quiet (first | ((with_reducible refine gate_dst (N := 1) rfl ?_); (try (refine gate_guard (by rfl) ?_; dsimp only)); refine box_event ?hg (N := 1) ?hd (cs := #[.int .i64 a0_0, .string a0_1, .string a0_2, .slice A0_3 l0_3.length c0_3, .int .i64 a0_4, .int .i64 a0_5, .int .i64 a0_6, .slice A0_7 l0_7.length c0_7]) (t := 37) ?hr ?_; (case hd => rfl); (case hg => rfl); (case hr => first | (go_simp; done) | (go_simp; rfl)); intro gb296 hg w133 hbox hb; have BK296 := Aside0.mk hbox; have GW296 := gu_ hg HB; have GE296 := gu_ hg HB; replace HB := bs_ HB hb; clear hb hbox hg; obtain ⟨hcz134_0, hcz134_1, hcz134_2, hcz134_3, hcz134_4, hcz134_5, hcz134_6, hcz134_7⟩ := blk_cells8 BK296.out; obtain ⟨hfz134_0, hfz134_1, hfz134_2, hfz134_3, hfz134_4, hfz134_5, hfz134_6, hfz134_7⟩ := blk_frozen8 BK296.out) | (go_at_call 79; (with_reducible refine (impl_Op_hasTo.calls a0_0 a0_1 a0_2 _ _ l0_3 a0_4 a0_5 a0_6 _ _ l0_7 false _ ?_ ?_ ?_ ?_ A2.out).mono ?_); exact C_up (Kd.C_below HR0_3.out HB.out); exact HC0_3.out; exact C_up (Kd.C_below HR0_7.out HB.out); exact HC0_7.out; rintro e w135 ⟨rfl, hb⟩; replace BK296 := bb_ BK296 hb; replace HB := bs_ HB hb; (try clear hb); obtain ⟨hcz136_0, hcz136_1, hcz136_2, hcz136_3, hcz136_4, hcz136_5, hcz136_6, hcz136_7⟩ := blk_cells8 BK296.out; obtain ⟨hfz136_0, hfz136_1, hfz136_2, hfz136_3, hfz136_4, hfz136_5, hfz136_6, hfz136_7⟩ := blk_frozen8 BK296.out) | (go_at_call 100; (with_reducible refine (impl_Op_hasUids.calls a0_0 a0_1 a0_2 _ _ l0_3 a0_4 a0_5 a0_6 _ _ l0_7 true _ ?_ ?_ ?_ ?_ A123.out).mono ?_); exact C_up (Kd.C_below HR0_3.out HB.out); exact HC0_3.out; exact C_up (Kd.C_below HR0_7.out HB.out); exact HC0_7.out; rintro e w137 ⟨rfl, hb⟩; replace BK296 := bb_ BK296 hb; replace HB := bs_ HB hb; (try clear hb); obtain ⟨hcz138_0, hcz138_1, hcz138_2, hcz138_3, hcz138_4, hcz138_5, hcz138_6, hcz138_7⟩ := blk_cells8 BK296.out; obtain ⟨hfz138_0, hfz138_1, hfz138_2, hfz138_3, hfz138_4, hfz138_5, hfz138_6, hfz138_7⟩ := blk_frozen8 BK296.out)); try go_wp2_with (first | ((with_reducible refine gate_dst (N := 1) rfl ?_); (try (refine gate_guard (by rfl) ?_; dsimp only)); refine box_event ?hg (N := 1) ?hd (cs := #[.int .i64 a0_0, .string a0_1, .string a0_2, .slice A0_3 l0_3.length c0_3, .int .i64 a0_4, .int .i64 a0_5, .int .i64 a0_6, .slice A0_7 l0_7.length c0_7]) (t := 37) ?hr ?_; (case hd => rfl); (case hg => rfl); (case hr => first | (go_simp; done) | (go_simp; rfl)); intro gb296 hg w133 hbox hb; have BK296 := Aside0.mk hbox; have GW296 := gu_ hg HB; have GE296 := gu_ hg HB; replace HB := bs_ HB hb; clear hb hbox hg; obtain ⟨hcz134_0, hcz134_1, hcz134_2, hcz134_3, hcz134_4, hcz134_5, hcz134_6, hcz134_7⟩ := blk_cells8 BK296.out; obtain ⟨hfz134_0, hfz134_1, hfz134_2, hfz134_3, hfz134_4, hfz134_5, hfz134_6, hfz134_7⟩ := blk_frozen8 BK296.out) | (go_at_call 79; (with_reducible refine (impl_Op_hasTo.calls a0_0 a0_1 a0_2 _ _ l0_3 a0_4 a0_5 a0_6 _ _ l0_7 false _ ?_ ?_ ?_ ?_ A2.out).mono ?_); exact C_up (Kd.C_below HR0_3.out HB.out); exact HC0_3.out; exact C_up (Kd.C_below HR0_7.out HB.out); exact HC0_7.out; rintro e w135 ⟨rfl, hb⟩; replace BK296 := bb_ BK296 hb; replace HB := bs_ HB hb; (try clear hb); obtain ⟨hcz136_0, hcz136_1, hcz136_2, hcz136_3, hcz136_4, hcz136_5, hcz136_6, hcz136_7⟩ := blk_cells8 BK296.out; obtain ⟨hfz136_0, hfz136_1, hfz136_2, hfz136_3, hfz136_4, hfz136_5, hfz136_6, hfz136_7⟩ := blk_frozen8 BK296.out) | (go_at_call 100; (with_reducible refine (impl_Op_hasUids.calls a0_0 a0_1 a0_2 _ _ l0_3 a0_4 a0_5 a0_6 _ _ l0_7 true _ ?_ ?_ ?_ ?_ A123.out).mono ?_); exact C_up (Kd.C_below HR0_3.out HB.out); exact HC0_3.out; exact C_up (Kd.C_below HR0_7.out HB.out); exact HC0_7.out; rintro e w137 ⟨rfl, hb⟩; replace BK296 := bb_ BK296 hb; replace HB := bs_ HB hb; (try clear hb); obtain ⟨hcz138_0, hcz138_1, hcz138_2, hcz138_3, hcz138_4, hcz138_5, hcz138_6, hcz138_7⟩ := blk_cells8 BK296.out; obtain ⟨hfz138_0, hfz138_1, hfz138_2, hfz138_3, hfz138_4, hfz138_5, hfz138_6, hfz138_7⟩ := blk_frozen8 BK296.out))))
    go_ret
    exact ⟨ve_, hs_⟩
  | (with_reducible refine impl_Op_isOnly.Tag.mk 6 ?_)
    go_enter Try.func77, Try.ntmps77
    go_wp2_with (first | ((with_reducible refine gate_dst (N := 1) rfl ?_); (try (refine gate_guard (by rfl) ?_; dsimp only)); refine box_event ?hg (N := 1) ?hd (cs := #[.int .i64 a0_0, .string a0_1, .string a0_2, .slice A0_3 l0_3.length c0_3, .int .i64 a0_4, .int .i64 a0_5, .int .i64 a0_6, .slice A0_7 l0_7.length c0_7]) (t := 37) ?hr ?_; (case hd => rfl); (case hg => rfl); (case hr => first | (go_simp; done) | (go_simp; rfl)); intro gb296 hg w182 hbox hb; have BK296 := Aside0.mk hbox; have GW296 := gu_ hg HB; have GE296 := gu_ hg HB; replace HB := bs_ HB hb; clear hb hbox hg; obtain ⟨hcz183_0, hcz183_1, hcz183_2, hcz183_3, hcz183_4, hcz183_5, hcz183_6, hcz183_7⟩ := blk_cells8 BK296.out; obtain ⟨hfz183_0, hfz183_1, hfz183_2, hfz183_3, hfz183_4, hfz183_5, hfz183_6, hfz183_7⟩ := blk_frozen8 BK296.out) | (go_at_call 79; (with_reducible refine (impl_Op_hasTo.calls a0_0 a0_1 a0_2 _ _ l0_3 a0_4 a0_5 a0_6 _ _ l0_7 false _ ?_ ?_ ?_ ?_ A2.out).mono ?_); exact C_up (Kd.C_below HR0_3.out HB.out); exact HC0_3.out; exact C_up (Kd.C_below HR0_7.out HB.out); exact HC0_7.out; rintro e w184 ⟨rfl, hb⟩; replace BK296 := bb_ BK296 hb; replace HB := bs_ HB hb; (try clear hb); obtain ⟨hcz185_0, hcz185_1, hcz185_2, hcz185_3, hcz185_4, hcz185_5, hcz185_6, hcz185_7⟩ := blk_cells8 BK296.out; obtain ⟨hfz185_0, hfz185_1, hfz185_2, hfz185_3, hfz185_4, hfz185_5, hfz185_6, hfz185_7⟩ := blk_frozen8 BK296.out) | (go_at_call 100; (with_reducible refine (impl_Op_hasUids.calls a0_0 a0_1 a0_2 _ _ l0_3 a0_4 a0_5 a0_6 _ _ l0_7 false _ ?_ ?_ ?_ ?_ A123.out).mono ?_); exact C_up (Kd.C_below HR0_3.out HB.out); exact HC0_3.out; exact C_up (Kd.C_below HR0_7.out HB.out); exact HC0_7.out; rintro e w186 ⟨rfl, hb⟩; replace BK296 := bb_ BK296 hb; replace HB := bs_ HB hb; (try clear hb); obtain ⟨hcz187_0, hcz187_1, hcz187_2, hcz187_3, hcz187_4, hcz187_5, hcz187_6, hcz187_7⟩ := blk_cells8 BK296.out; obtain ⟨hfz187_0, hfz187_1, hfz187_2, hfz187_3, hfz187_4, hfz187_5, hfz187_6, hfz187_7⟩ := blk_frozen8 BK296.out))
    (repeat (go_quiet (first | ((with_reducible refine gate_dst (N := 1) rfl ?_); (try (refine gate_guard (by rfl) ?_; dsimp only)); refine box_event ?hg (N := 1) ?hd (cs := #[.int .i64 a0_0, .string a0_1, .string a0_2, .slice A0_3 l0_3.length c0_3, .int .i64 a0_4, .int .i64 a0_5, .int .i64 a0_6, .slice A0_7 l0_7.length c0_7]) (t := 37) ?hr ?_; (case hd => rfl); (case hg => rfl); (case hr => first | (go_simp; done) | (go_simp; rfl)); intro gb296 hg w182 hbox hb; have BK296 := Aside0.mk hbox; have GW296 := gu_ hg HB; have GE296 := gu_ hg HB; replace HB := bs_ HB hb; clear hb hbox hg; obtain ⟨hcz183_0, hcz183_1, hcz183_2, hcz183_3, hcz183_4, hcz183_5, hcz183_6, hcz183_7⟩ := blk_cells8 BK296.out; obtain ⟨hfz183_0, hfz183_1, hfz183_2, hfz183_3, hfz183_4, hfz183_5, hfz183_6, hfz183_7⟩ := blk_frozen8 BK296.out) | (go_at_call 79; (with_reducible refine (impl_Op_hasTo.calls a0_0 a0_1 a0_2 _ _ l0_3 a0_4 a0_5 a0_6 _ _ l0_7 false _ ?_ ?_ ?_ ?_ A2.out).mono ?_); exact C_up (Kd.C_below HR0_3.out HB.out); exact HC0_3.out; exact C_up (Kd.C_below HR0_7.out HB.out); exact HC0_7.out; rintro e w184 ⟨rfl, hb⟩; replace BK296 := bb_ BK296 hb; replace HB := bs_ HB hb; (try clear hb); obtain ⟨hcz185_0, hcz185_1, hcz185_2, hcz185_3, hcz185_4, hcz185_5, hcz185_6, hcz185_7⟩ := blk_cells8 BK296.out; obtain ⟨hfz185_0, hfz185_1, hfz185_2, hfz185_3, hfz185_4, hfz185_5, hfz185_6, hfz185_7⟩ := blk_frozen8 BK296.out) | (go_at_call 100; (with_reducible refine (impl_Op_hasUids.calls a0_0 a0_1 a0_2 _ _ l0_3 a0_4 a0_5 a0_6 _ _ l0_7 false _ ?_ ?_ ?_ ?_ A123.out).mono ?_); exact C_up (Kd.C_below HR0_3.out HB.out); exact HC0_3.out; exact C_up (Kd.C_below HR0_7.out HB.out); exact HC0_7.out; rintro e w186 ⟨rfl, hb⟩; replace BK296 := bb_ BK296 hb; replace HB := bs_ HB hb; (try clear hb); obtain ⟨hcz187_0, hcz187_1, hcz187_2, hcz187_3, hcz187_4, hcz187_5, hcz187_6, hcz187_7⟩ := blk_cells8 BK296.out; obtain ⟨hfz187_0, hfz187_1, hfz187_2, hfz187_3, hfz187_4, hfz187_5, hfz187_6, hfz187_7⟩ := blk_frozen8 BK296.out)); try go_wp2_with (first | ((with_reducible refine gate_dst (N := 1) rfl ?_); (try (refine gate_guard (by rfl) ?_; dsimp only)); refine box_event ?hg (N := 1) ?hd (cs := #[.int .i64 a0_0, .string a0_1, .string a0_2, .slice A0_3 l0_3.length c0_3, .int .i64 a0_4, .int .i64 a0_5, .int .i64 a0_6, .slice A0_7 l0_7.length c0_7]) (t := 37) ?hr ?_; (case hd => rfl); (case hg => rfl); (case hr => first | (go_simp; done) | (go_simp; rfl)); intro gb296 hg w182 hbox hb; have BK296 := Aside0.mk hbox; have GW296 := gu_ hg HB; have GE296 := gu_ hg HB; replace HB := bs_ HB hb; clear hb hbox hg; obtain ⟨hcz183_0, hcz183_1, hcz183_2, hcz183_3, hcz183_4, hcz183_5, hcz183_6, hcz183_7⟩ := blk_cells8 BK296.out; obtain ⟨hfz183_0, hfz183_1, hfz183_2, hfz183_3, hfz183_4, hfz183_5, hfz183_6, hfz183_7⟩ := blk_frozen8 BK296.out) | (go_at_call 79; (with_reducible refine (impl_Op_hasTo.calls a0_0 a0_1 a0_2 _ _ l0_3 a0_4 a0_5 a0_6 _ _ l0_7 false _ ?_ ?_ ?_ ?_ A2.out).mono ?_); exact C_up (Kd.C_below HR0_3.out HB.out); exact HC0_3.out; exact C_up (Kd.C_below HR0_7.out HB.out); exact HC0_7.out; rintro e w184 ⟨rfl, hb⟩; replace BK296 := bb_ BK296 hb; replace HB := bs_ HB hb; (try clear hb); obtain ⟨hcz185_0, hcz185_1, hcz185_2, hcz185_3, hcz185_4, hcz185_5, hcz185_6, hcz185_7⟩ := blk_cells8 BK296.out; obtain ⟨hfz185_0, hfz185_1, hfz185_2, hfz185_3, hfz185_4, hfz185_5, hfz185_6, hfz185_7⟩ := blk_frozen8 BK296.out) | (go_at_call 100; (with_reducible refine (impl_Op_hasUids.calls a0_0 a0_1 a0_2 _ _ l0_3 a0_4 a0_5 a0_6 _ _ l0_7 false _ ?_ ?_ ?_ ?_ A123.out).mono ?_); exact C_up (Kd.C_below HR0_3.out HB.out); exact HC0_3.out; exact C_up (Kd.C_below HR0_7.out HB.out); exact HC0_7.out; rintro e w186 ⟨rfl, hb⟩; replace BK296 := bb_ BK296 hb; replace HB := bs_ HB hb; (try clear hb); obtain ⟨hcz187_0, hcz187_1, hcz187_2, hcz187_3, hcz187_4, hcz187_5, hcz187_6, hcz187_7⟩ := blk_cells8 BK296.out; obtain ⟨hfz187_0, hfz187_1, hfz187_2, hfz187_3, hfz187_4, hfz187_5, hfz187_6, hfz187_7⟩ := blk_frozen8 BK296.out))))
    go_ret
    exact ⟨ve_, hs_⟩
  | (with_reducible refine impl_Op_isOnly.Tag.mk 7 ?_)
    go_enter Try.func77, Try.ntmps77
    go_wp2_with (first | ((with_reducible refine gate_dst (N := 1) rfl ?_); (try (refine gate_guard (by rfl) ?_; dsimp only)); refine box_event ?hg (N := 1) ?hd (cs := #[.int .i64 a0_0, .string a0_1, .string a0_2, .slice A0_3 l0_3.length c0_3, .int .i64 a0_4, .int .i64 a0_5, .int .i64 a0_6, .slice A0_7 l0_7.length c0_7]) (t := 37) ?hr ?_; (case hd => rfl); (case hg => rfl); (case hr => first | (go_simp; done) | (go_simp; rfl)); intro gb296 hg w241 hbox hb; have BK296 := Aside0.mk hbox; have GW296 := gu_ hg HB; have GE296 := gu_ hg HB; replace HB := bs_ HB hb; clear hb hbox hg; obtain ⟨hcz242_0, hcz242_1, hcz242_2, hcz242_3, hcz242_4, hcz242_5, hcz242_6, hcz242_7⟩ := blk_cells8 BK296.out; obtain ⟨hfz242_0, hfz242_1, hfz242_2, hfz242_3, hfz242_4, hfz242_5, hfz242_6, hfz242_7⟩ := blk_frozen8 BK296.out) | (go_at_call 79; (with_reducible refine (impl_Op_hasTo.calls a0_0 a0_1 a0_2 _ _ l0_3 a0_4 a0_5 a0_6 _ _ l0_7 false _ ?_ ?_ ?_ ?_ A2.out).mono ?_); exact C_up (Kd.C_below HR0_3.out HB.out); exact HC0_3.out; exact C_up (Kd.C_below HR0_7.out HB.out); exact HC0_7.out; rintro e w243 ⟨rfl, hb⟩; replace BK296 := bb_ BK296 hb; replace HB := bs_ HB hb; (try clear hb); obtain ⟨hcz244_0, hcz244_1, hcz244_2, hcz244_3, hcz244_4, hcz244_5, hcz244_6, hcz244_7⟩ := blk_cells8 BK296.out; obtain ⟨hfz244_0, hfz244_1, hfz244_2, hfz244_3, hfz244_4, hfz244_5, hfz244_6, hfz244_7⟩ := blk_frozen8 BK296.out))
    (repeat (go_quiet (first | ((with_reducible refine gate_dst (N := 1) rfl ?_); (try (refine gate_guard (by rfl) ?_; dsimp only)); refine box_event ?hg (N := 1) ?hd (cs := #[.int .i64 a0_0, .string a0_1, .string a0_2, .slice A0_3 l0_3.length c0_3, .int .i64 a0_4, .int .i64 a0_5, .int .i64 a0_6, .slice A0_7 l0_7.length c0_7]) (t := 37) ?hr ?_; (case hd => rfl); (case hg => rfl); (case hr => first | (go_simp; done) | (go_simp; rfl)); intro gb296 hg w241 hbox hb; have BK296 := Aside0.mk hbox; have GW296 := gu_ hg HB; have GE296 := gu_ hg HB; replace HB := bs_ HB hb; clear hb hbox hg; obtain ⟨hcz242_0, hcz242_1, hcz242_2, hcz242_3, hcz242_4, hcz242_5, hcz242_6, hcz242_7⟩ := blk_cells8 BK296.out; obtain ⟨hfz242_0, hfz242_1, hfz242_2, hfz242_3, hfz242_4, hfz242_5, hfz242_6, hfz242_7⟩ := blk_frozen8 BK296.out) | (go_at_call 79; (with_reducible refine (impl_Op_hasTo.calls a0_0 a0_1 a0_2 _ _ l0_3 a0_4 a0_5 a0_6 _ _ l0_7 false _ ?_ ?_ ?_ ?_ A2.out).mono ?_); exact C_up (Kd.C_below HR0_3.out HB.out); exact HC0_3.out; exact C_up (Kd.C_below HR0_7.out HB.out); exact HC0_7.out; rintro e w243 ⟨rfl, hb⟩; replace BK296 := bb_ BK296 hb; replace HB := bs_ HB hb; (try clear hb); obtain ⟨hcz244_0, hcz244_1, hcz244_2, hcz244_3, hcz244_4, hcz244_5, hcz244_6, hcz244_7⟩ := blk_cells8 BK296.out; obtain ⟨hfz244_0, hfz244_1, hfz244_2, hfz244_3, hfz244_4, hfz244_5, hfz244_6, hfz244_7⟩ := blk_frozen8 BK296.out)); try go_wp2_with (first | ((with_reducible refine gate_dst (N := 1) rfl ?_); (try (refine gate_guard (by rfl) ?_; dsimp only)); refine box_event ?hg (N := 1) ?hd (cs := #[.int .i64 a0_0, .string a0_1, .string a0_2, .slice A0_3 l0_3.length c0_3, .int .i64 a0_4, .int .i64 a0_5, .int .i64 a0_6, .slice A0_7 l0_7.length c0_7]) (t := 37) ?hr ?_; (case hd => rfl); (case hg => rfl); (case hr => first | (go_simp; done) | (go_simp; rfl)); intro gb296 hg w241 hbox hb; have BK296 := Aside0.mk hbox; have GW296 := gu_ hg HB; have GE296 := gu_ hg HB; replace HB := bs_ HB hb; clear hb hbox hg; obtain ⟨hcz242_0, hcz242_1, hcz242_2, hcz242_3, hcz242_4, hcz242_5, hcz242_6, hcz242_7⟩ := blk_cells8 BK296.out; obtain ⟨hfz242_0, hfz242_1, hfz242_2, hfz242_3, hfz242_4, hfz242_5, hfz242_6, hfz242_7⟩ := blk_frozen8 BK296.out) | (go_at_call 79; (with_reducible refine (impl_Op_hasTo.calls a0_0 a0_1 a0_2 _ _ l0_3 a0_4 a0_5 a0_6 _ _ l0_7 false _ ?_ ?_ ?_ ?_ A2.out).mono ?_); exact C_up (Kd.C_below HR0_3.out HB.out); exact HC0_3.out; exact C_up (Kd.C_below HR0_7.out HB.out); exact HC0_7.out; rintro e w243 ⟨rfl, hb⟩; replace BK296 := bb_ BK296 hb; replace HB := bs_ HB hb; (try clear hb); obtain ⟨hcz244_0, hcz244_1, hcz244_2, hcz244_3, hcz244_4, hcz244_5, hcz244_6, hcz244_7⟩ := blk_cells8 BK296.out; obtain ⟨hfz244_0, hfz244_1, hfz244_2, hfz244_3, hfz244_4, hfz244_5, hfz244_6, hfz244_7⟩ := blk_frozen8 BK296.out))))
    go_ret
    exact ⟨ve_, hs_⟩

/-! ### impl_isSmallWord: function 101 -/
def impl_isSmallWord.l0 : Nat → ByteArray → Int → Int → Int → Option (Bool)
 | 0, _, _, _, _ => none
 | k + 1, x0, x1, x7, x8 => if x8 < x7 then (if 0 ≤ x8 then (if x8 < (x0.size : Int) then (if (bt x0 x8) < 97 then (some false) else (if (bt x0 x8) > 122 then (some false) else (impl_isSmallWord.l0 k x0 x1 x7 (wrap64 (x8 + 1))))) else (none)) else (none)) else (if (x0.size : Int) ≥ 1 then (some (decide ((x0.size : Int) ≤ x1))) else (some false))
def impl_isSmallWord.f (k : Nat) (a0 : ByteArray) (a1 : Int) : Option (Bool) := impl_isSmallWord.l0 k a0 a1 (a0.size : Int) 0
set_option maxHeartbeats 8000000 in
set_option maxRecDepth 100000 in
theorem impl_isSmallWord.calls (k : Nat) (a0 : ByteArray) (a1 : Int) (r : Bool) (w : World) (h : impl_isSmallWord.f k a0 a1 = some r) :
 Calls Try.prog 101 #[.string a0, .int .i64 a1] w fun e w' => e = .returned (.bool r) ∧ Drawn0 w w' := by
 have H := h; unfold impl_isSmallWord.f at H; clear h; have H' := Aside0.mk H; clear H
 go_enter Try.func101, Try.ntmps101
 go_wp2
 go_loopg [8] k (fun kq v8 w' => ∃ (x8_1 : Int), v8 = .int .i64 x8_1 ∧ Aside0 (impl_isSmallWord.l0 kq a0 a1 (a0.size : Int) x8_1 = some r) ∧ Aside0 (kq ≤ k) ∧ Drawn0 w w')
 case atStart => exact ⟨(0), vl_, H', ⟨Nat.le_refl _⟩, dr_⟩
 case round =>
  clear H'; obtain ⟨x8_1, rfl, HA, HK1, ⟨m1, rfl⟩⟩ := hrel
  cases gk with
  | zero => exact absurd HA.out (by simp [impl_isSmallWord.l0])
  | succ k1 =>
    have H := HA.out; clear HA; simp only [impl_isSmallWord.l0] at H
    by_cases c3 : x8_1 < (a0.size : Int)
    ·
     rw [if_pos c3] at H; have c3b0 : decide (x8_1 < (a0.size : Int)) = true := decide_eq_true c3; clear c3; obtain ⟨c4, H⟩ := ifc_ H; have c4b0 : decide (0 ≤ x8_1) = true := decide_eq_true c4; clear c4; obtain ⟨c5, H⟩ := ifc_ H; have c5b0 : decide (x8_1 < (a0.size : Int)) = true := decide_eq_true c5; clear c5; have p6 : 0 ≤ (x8_1 : Int) := od_; have q6 : x8_1 < (a0.size : Int) := od_; have hx6 := bt_at a0 x8_1; replace p6 := eq_true p6; replace q6 := eq_true q6
     by_cases c7 : (bt a0 x8_1) < 97
     ·
      rw [if_pos c7] at H; have c7b0 : decide ((bt a0 x8_1) < 97) = true := decide_eq_true c7; clear c7; obtain rfl := Option.some.inj H
      go_wp2
      go_ret
      exact ⟨vl_, dr_⟩
     ·
      rw [if_neg c7] at H; have c7b0 : decide ((bt a0 x8_1) < 97) = false := decide_eq_false c7; clear c7; have p8 : 0 ≤ (x8_1 : Int) := od_; have q8 : x8_1 < (a0.size : Int) := od_; have hx8 := bt_at a0 x8_1; replace p8 := eq_true p8; replace q8 := eq_true q8
      by_cases c9 : (bt a0 x8_1) > 122
      ·
       rw [if_pos c9] at H; have c9b0 : decide (122 < (bt a0 x8_1)) = true := decide_eq_true c9; clear c9; obtain rfl := Option.some.inj H
       go_wp2
       go_ret
       exact ⟨vl_, dr_⟩
      ·
       rw [if_neg c9] at H; have c9b0 : decide (122 < (bt a0 x8_1)) = false := decide_eq_false c9; clear c9; have H' := Aside0.mk H; clear H
       go_wp2
       go_roundg k1
       case measure => have := HK1.out; omega
       case rel => exact ⟨(wrap64 (x8_1 + 1)), vl_, H', ⟨by have := HK1.out; omega⟩, dr_⟩
    ·
     rw [if_neg c3] at H; have c3b0 : decide (x8_1 < (a0.size : Int)) = false := decide_eq_false c3; clear c3
     by_cases c10 : (a0.size : Int) ≥ 1
     ·
      rw [if_pos c10] at H; have c10b0 : decide (1 ≤ (a0.size : Int)) = true := decide_eq_true c10; have c10b1 : decide (1 ≤ a0.size) = true := decide_eq_true (by omega); clear c10; obtain rfl := Option.some.inj H
      go_wp2
      go_ret
      exact ⟨vl_, dr_⟩
     ·
      rw [if_neg c10] at H; have c10b0 : decide (1 ≤ (a0.size : Int)) = false := decide_eq_false c10; have c10b1 : decide (1 ≤ a0.size) = false := decide_eq_false (by omega); clear c10; obtain rfl := Option.some.inj H
      go_wp2
      go_ret
      exact ⟨vl_, dr_⟩

/-! ### impl_isName: function 78 -/
def impl_isName.f (k : Nat) (a0 : ByteArray) : Option (Bool) := (impl_isSmallWord.f k a0 8).bind fun t300 => (some t300)
set_option maxHeartbeats 8000000 in
set_option maxRecDepth 100000 in
theorem impl_isName.calls (k : Nat) (a0 : ByteArray) (r : Bool) (w : World) (h : impl_isName.f k a0 = some r) :
 Calls Try.prog 78 #[.string a0] w fun e w' => e = .returned (.bool r) ∧ Drawn0 w w' := by
 have H := h; unfold impl_isName.f at H; clear h; replace H := Option.bind_eq_some_iff.mp H; obtain ⟨t300, A20, H⟩ := H; replace H : (some t300) = some r := H; have A2 := Aside0.mk A20; clear A20; obtain rfl := Option.some.inj H
 go_enter Try.func78, Try.ntmps78
 go_wp2_with (first | ((with_reducible refine gate_callee (f := 101) rfl ?_); refine goesY_ (some 4) Try.func101 #[.string a0, .int .i64 8] rfl ?_; (with_reducible refine (impl_isSmallWord.calls k a0 8 t300 _ A2.out).mono ?_); rintro e w' ⟨rfl, ⟨nd, rfl⟩⟩; refine ⟨_, rfl, ?_⟩))
 go_ret
 exact ⟨vl_, dr_⟩

/-! ### impl_isUid: function 102 -/
def impl_isUid.f (a0 : Int) : Option (Bool) := (impl_within.f a0 1 999).bind fun t301 => (some t301)
set_option maxHeartbeats 8000000 in
set_option maxRecDepth 100000 in
theorem impl_isUid.calls (a0 : Int) (r : Bool) (w : World) (h : impl_isUid.f a0 = some r) :
 Calls Try.prog 102 #[.int .i64 a0] w fun e w' => e = .returned (.bool r) ∧ Drawn0 w w' := by
 have H := h; unfold impl_isUid.f at H; clear h; replace H := Option.bind_eq_some_iff.mp H; obtain ⟨t301, A20, H⟩ := H; replace H : (some t301) = some r := H; have A2 := Aside0.mk A20; clear A20; obtain rfl := Option.some.inj H
 go_enter Try.func102, Try.ntmps102
 go_wp2_with (first | ((with_reducible refine gate_callee (f := 76) rfl ?_); refine goesY_ (some 4) Try.func76 #[.int .i64 a0, .int .i64 1, .int .i64 999] rfl ?_; (with_reducible refine (impl_within.calls a0 1 999 t301 _ A2.out).mono ?_); rintro e w' ⟨rfl, ⟨nd, rfl⟩⟩; refine ⟨_, rfl, ?_⟩))
 go_ret
 exact ⟨vl_, dr_⟩

/-! ### impl_areUids: function 80 -/
def impl_areUids.l0 : Nat → List Int → List Int → Int → Int → Option (Bool)
 | 0, _, _, _, _ => none
 | k + 1, x0, x5, x6, x7 => if x7 < x6 then (if 0 ≤ x7 then (if x7 < (x5.length : Int) then ((impl_isUid.f (rd x5 x7)).bind fun t303 => (if t303 = true then (if x7 > 0 then (if 0 ≤ (wrap64 (x7 - 1)) then (if (wrap64 (x7 - 1)) < (x0.length : Int) then (if (rd x0 (wrap64 (x7 - 1))) ≥ (rd x5 x7) then (some false) else (impl_areUids.l0 k x0 x5 x6 (wrap64 (x7 + 1)))) else (none)) else (none)) else (impl_areUids.l0 k x0 x5 x6 (wrap64 (x7 + 1)))) else (some false))) else (none)) else (none)) else (some true)
def impl_areUids.f (k : Nat) (l0 : List Int) : Option (Bool) := impl_areUids.l0 k l0 l0 (l0.length : Int) 0
set_option maxHeartbeats 8000000 in
set_option maxRecDepth 100000 in
theorem impl_areUids.calls (k : Nat) (A0 : Option Addr) (c0 : Nat) (l0 : List Int) (r : Bool) (w : World) (hr0 : Kd.C (Kd.int .i64) w A0 l0.length l0) (hc0 : l0.length ≤ c0) (h : impl_areUids.f k l0 = some r) :
 Calls Try.prog 80 #[.slice A0 l0.length c0] w fun e w' => e = .returned (.bool r) ∧ Drawn0 w w' := by
 have HR0 := Aside0.mk hr0; have HC0 := Aside0.mk hc0; clear hr0 hc0; have H := h; unfold impl_areUids.f at H; clear h; have H' := Aside0.mk H; clear H
 go_enter Try.func80, Try.ntmps80
 go_wp2
 go_loopg [7] k (fun kq v7 w' => ∃ (x7_1 : Int), v7 = .int .i64 x7_1 ∧ Aside0 (impl_areUids.l0 kq l0 l0 (l0.length : Int) x7_1 = some r) ∧ Aside0 (kq ≤ k) ∧ Drawn0 w w')
 case atStart => exact ⟨(0), vl_, H', ⟨Nat.le_refl _⟩, dr_⟩
 case round =>
  clear H'; obtain ⟨x7_1, rfl, HA, HK1, ⟨m1, rfl⟩⟩ := hrel
  cases gk with
  | zero => exact absurd HA.out (by simp [impl_areUids.l0])
  | succ k1 =>
    have H := HA.out; clear HA; simp only [impl_areUids.l0] at H
    by_cases c2 : x7_1 < (l0.length : Int)
    ·
     rw [if_pos c2] at H; have c2b0 : decide (x7_1 < (l0.length : Int)) = true := decide_eq_true c2; clear c2; obtain ⟨c3, H⟩ := ifc_ H; have c3b0 : decide (0 ≤ x7_1) = true := decide_eq_true c3; clear c3; obtain ⟨c4, H⟩ := ifc_ H; have c4b0 : decide (x7_1 < (l0.length : Int)) = true := decide_eq_true c4; clear c4; obtain ⟨t303, A5, H⟩ := bd_ H; (try dsimp only at H)
     by_cases c6 : t303 = true
     ·
      subst c6; (try rw [if_pos rfl] at H)
      by_cases c7 : x7_1 > 0
      ·
       rw [if_pos c7] at H; have c7b0 : decide (0 < x7_1) = true := decide_eq_true c7; clear c7; obtain ⟨ji8, hji8⟩ : ∃ j_ : Int, (wrap64 (x7_1 - 1)) = j_ := ⟨_, rfl⟩
       replace H : (if 0 ≤ (ji8) then (if (ji8) < (l0.length : Int) then (if (rd l0 (ji8)) ≥ (rd l0 x7_1) then (some false) else (impl_areUids.l0 k1 l0 l0 (l0.length : Int) (wrap64 (x7_1 + 1)))) else (none)) else (none)) = some r := by first | (rw [hji8] at H; exact H) | (simp only [hji8] at H ⊢; exact H)
       (try rw [hji8] at A5); have hji8w : (IntKind.i64.wrap (x7_1 - 1)) = ji8 := (i64_w _).trans hji8; obtain ⟨c9, H⟩ := ifc_ H; have c9b0 : decide (0 ≤ (ji8)) = true := decide_eq_true c9; clear c9; obtain ⟨c10, H⟩ := ifc_ H; have c10b0 : decide ((ji8) < (l0.length : Int)) = true := decide_eq_true c10; clear c10; have p302 : 0 ≤ (x7_1 : Int) := od_; have q302 : x7_1 < (l0.length : Int) := od_; obtain ⟨ad302, e302, hx302_0⟩ := Kd.at_int HR0.out x7_1 p302 q302
       cases e302
       replace p302 := eq_true p302; replace q302 := eq_true q302
       by_cases c11 : (rd l0 (ji8)) ≥ (rd l0 x7_1)
       ·
        rw [if_pos c11] at H; have c11b0 : decide ((rd l0 x7_1) ≤ (rd l0 (ji8))) = true := decide_eq_true c11; clear c11; obtain rfl := Option.some.inj H
        go_wp2_with (first | ((with_reducible refine gate_callee (f := 102) rfl ?_); refine goesY_ (some 13) Try.func102 #[.int .i64 (rd l0 x7_1)] rfl ?_; (with_reducible refine (impl_isUid.calls (rd l0 x7_1) true _ A5.out).mono ?_); rintro e w' ⟨rfl, ⟨nd, rfl⟩⟩; refine ⟨_, rfl, ?_⟩; have p304 : 0 ≤ ((ji8) : Int) := od_; have q304 : (ji8) < (l0.length : Int) := od_; obtain ⟨ad304, e304, hx304_0⟩ := Kd.at_int HR0.out (ji8) p304 q304; obtain rfl : ad302 = ad304 := (by injection e304); replace p304 := eq_true p304; replace q304 := eq_true q304))
        go_ret
        exact ⟨by first | rfl | (simp; done) | (simp only [← hji8] <;> (first | rfl | simp)) | (simp [*]; done) | (simp; generalize ByteArray.toList _ = zq_; cases zq_ <;> rfl), dr_⟩
       ·
        rw [if_neg c11] at H; have c11b0 : decide ((rd l0 x7_1) ≤ (rd l0 (ji8))) = false := decide_eq_false c11; clear c11; have H' := Aside0.mk H; clear H
        go_wp2_with (first | ((with_reducible refine gate_callee (f := 102) rfl ?_); refine goesY_ (some 13) Try.func102 #[.int .i64 (rd l0 x7_1)] rfl ?_; (with_reducible refine (impl_isUid.calls (rd l0 x7_1) true _ A5.out).mono ?_); rintro e w' ⟨rfl, ⟨nd, rfl⟩⟩; refine ⟨_, rfl, ?_⟩; have p304 : 0 ≤ ((ji8) : Int) := od_; have q304 : (ji8) < (l0.length : Int) := od_; obtain ⟨ad304, e304, hx304_0⟩ := Kd.at_int HR0.out (ji8) p304 q304; obtain rfl : ad302 = ad304 := (by injection e304); replace p304 := eq_true p304; replace q304 := eq_true q304))
        go_roundg k1
        case measure => have := HK1.out; omega
        case rel => exact ⟨(wrap64 (x7_1 + 1)), vl_, H', ⟨by have := HK1.out; omega⟩, dr_⟩
      ·
       rw [if_neg c7] at H; have c7b0 : decide (0 < x7_1) = false := decide_eq_false c7; clear c7; have H' := Aside0.mk H; clear H; have p302 : 0 ≤ (x7_1 : Int) := od_; have q302 : x7_1 < (l0.length : Int) := od_; obtain ⟨ad302, e302, hx302_0⟩ := Kd.at_int HR0.out x7_1 p302 q302
       cases e302
       replace p302 := eq_true p302; replace q302 := eq_true q302
       go_wp2_with (first | ((with_reducible refine gate_callee (f := 102) rfl ?_); refine goesY_ (some 13) Try.func102 #[.int .i64 (rd l0 x7_1)] rfl ?_; (with_reducible refine (impl_isUid.calls (rd l0 x7_1) true _ A5.out).mono ?_); rintro e w' ⟨rfl, ⟨nd, rfl⟩⟩; refine ⟨_, rfl, ?_⟩))
       go_roundg k1
       case measure => have := HK1.out; omega
       case rel => exact ⟨(wrap64 (x7_1 + 1)), vl_, H', ⟨by have := HK1.out; omega⟩, dr_⟩
     ·
      replace c6 := Bool.eq_false_iff.mpr c6; subst c6; (try rw [if_neg (show ¬ (false = true) by decide)] at H); obtain rfl := Option.some.inj H; have p302 : 0 ≤ (x7_1 : Int) := od_; have q302 : x7_1 < (l0.length : Int) := od_; obtain ⟨ad302, e302, hx302_0⟩ := Kd.at_int HR0.out x7_1 p302 q302
      cases e302
      replace p302 := eq_true p302; replace q302 := eq_true q302
      go_wp2_with (first | ((with_reducible refine gate_callee (f := 102) rfl ?_); refine goesY_ (some 13) Try.func102 #[.int .i64 (rd l0 x7_1)] rfl ?_; (with_reducible refine (impl_isUid.calls (rd l0 x7_1) false _ A5.out).mono ?_); rintro e w' ⟨rfl, ⟨nd, rfl⟩⟩; refine ⟨_, rfl, ?_⟩))
      go_ret
      exact ⟨vl_, dr_⟩
    ·
     rw [if_neg c2] at H; have c2b0 : decide (x7_1 < (l0.length : Int)) = false := decide_eq_false c2; clear c2; obtain rfl := Option.some.inj H
     go_wp2
     go_ret
     exact ⟨vl_, dr_⟩

/-! ### impl_areFlags: function 81 -/
def impl_areFlags.f (a0 : Int) : Option (Bool) := (impl_within.f a0 0 15).bind fun t305 => (some t305)
set_option maxHeartbeats 8000000 in
set_option maxRecDepth 100000 in
theorem impl_areFlags.calls (a0 : Int) (r : Bool) (w : World) (h : impl_areFlags.f a0 = some r) :
 Calls Try.prog 81 #[.int .i64 a0] w fun e w' => e = .returned (.bool r) ∧ Drawn0 w w' := by
 have H := h; unfold impl_areFlags.f at H; clear h; replace H := Option.bind_eq_some_iff.mp H; obtain ⟨t305, A20, H⟩ := H; replace H : (some t305) = some r := H; have A2 := Aside0.mk A20; clear A20; obtain rfl := Option.some.inj H
 go_enter Try.func81, Try.ntmps81
 go_wp2_with (first | ((with_reducible refine gate_callee (f := 76) rfl ?_); refine goesY_ (some 4) Try.func76 #[.int .i64 a0, .int .i64 0, .int .i64 15] rfl ?_; (with_reducible refine (impl_within.calls a0 0 15 t305 _ A2.out).mono ?_); rintro e w' ⟨rfl, ⟨nd, rfl⟩⟩; refine ⟨_, rfl, ?_⟩))
 go_ret
 exact ⟨vl_, dr_⟩

/-! ### impl_isDate: function 82 -/
def impl_isDate.f (a0 : Int) : Option (Bool) := (impl_within.f a0 0 9999).bind fun t306 => (some t306)
set_option maxHeartbeats 8000000 in
set_option maxRecDepth 100000 in
theorem impl_isDate.calls (a0 : Int) (r : Bool) (w : World) (h : impl_isDate.f a0 = some r) :
 Calls Try.prog 82 #[.int .i64 a0] w fun e w' => e = .returned (.bool r) ∧ Drawn0 w w' := by
 have H := h; unfold impl_isDate.f at H; clear h; replace H := Option.bind_eq_some_iff.mp H; obtain ⟨t306, A20, H⟩ := H; replace H : (some t306) = some r := H; have A2 := Aside0.mk A20; clear A20; obtain rfl := Option.some.inj H
 go_enter Try.func82, Try.ntmps82
 go_wp2_with (first | ((with_reducible refine gate_callee (f := 76) rfl ?_); refine goesY_ (some 4) Try.func76 #[.int .i64 a0, .int .i64 0, .int .i64 9999] rfl ?_; (with_reducible refine (impl_within.calls a0 0 9999 t306 _ A2.out).mono ?_); rintro e w' ⟨rfl, ⟨nd, rfl⟩⟩; refine ⟨_, rfl, ?_⟩))
 go_ret
 exact ⟨vl_, dr_⟩

end Go.Proofs.Ytehdbobpbcjmeaa.PFnReads

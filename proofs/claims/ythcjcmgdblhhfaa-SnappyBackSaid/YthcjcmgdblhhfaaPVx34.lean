/- The machine side of these statements: what each Go function computes as a plain function, and that its call computes just that. Written by a program of mine (wip/drive.py). No conditions. -/
import Derived.Test.YthcjcmgdblhhfaaPVx0
import Derived.Test.YthcjcmgdblhhfaaPVx1
import Derived.Test.YthcjcmgdblhhfaaPVx10
import Derived.Test.YthcjcmgdblhhfaaPVx16
import Derived.Test.YthcjcmgdblhhfaaPVx18
namespace Go.Proofs.Ythcjcmgdblhhfaa.PV
open Go.RowKit Go.Proofs.YthcjcmgdblhhfaaW.PrintWords Go.Proofs.YthcjcmgdblhhfaaW.PrintLast Go.Proofs.YthcjcmgdblhhfaaW.PrintMore
attribute [local go_sem] max2_int min2_int max_two min_two max_three min_three max_four min_four   -- for this text's walks alone
set_option linter.unusedVariables false
set_option linter.unusedSimpArgs false

/-! ### batonlaw03_SnappyBack: function 6 -/
def batonlaw03_SnappyBack.j0 : Nat → ByteArray → Bool → Option (Bool)
 | 0,_,_=>none
 | k + 1,x0,x17=>if x17 = true then ((batonlaw03_awake.f k).bind fun t441=>(some t441)) else ((snappy_Encode.f k x0).bind fun bt442=>((snappy_Decode.f k bt442.1 (x0.size : Int)).bind fun bt444=>((snappy_Size.f k bt442.1).bind fun bt446=>((snappy_Decode.f k bt442.1 (wrap64 ((x0.size : Int) - 1))).bind fun bt448=>(if bt442.2 = 0 then (if bt444.2 = 0 then (if bt444.1.toList = x0.toList then (if bt446.2 = 0 then (if bt446.1 = (IntKind.u64.wrap ((x0.size : Int))) then (if bt448.2 = 40 then (some (decide ((bt442.1.size : Int) ≤ (wrap64 ((wrap64 ((wrap64 (3 + (x0.size : Int))) + (wrap64 ((x0.size : Int) / 30)))) + 4))))) else (some false)) else (some false)) else (some false)) else (some false)) else (some false)) else (some false))))))
def batonlaw03_SnappyBack.f (k : Nat) (a0 : ByteArray) : Option (Bool) := if (a0.size : Int) > 3000 then (batonlaw03_SnappyBack.j0 k a0 true) else ((batonlaw03_awake.f k).bind fun t440 => (batonlaw03_SnappyBack.j0 k a0 (!t440)))
theorem batonlaw03_SnappyBack.mono_l : ∀ k, (∀ y0 y1, LeO (batonlaw03_SnappyBack.j0 k y0 y1) (batonlaw03_SnappyBack.j0 (k + 1) y0 y1))
 | 0=>fun _ _ r h=>by simp [batonlaw03_SnappyBack.j0] at h
 | k + 1=>by
  have ih0 := batonlaw03_SnappyBack.mono_l k
  ·intro y0 y1
   unfold batonlaw03_SnappyBack.j0
   repeat' first
   | (with_reducible exact ih0 _ _)
   | (with_reducible exact batonlaw03_awake.mono _)
   | (with_reducible exact snappy_Decode.mono _ _ _)
   | (with_reducible exact snappy_Encode.mono _ _)
   | (with_reducible exact snappy_Size.mono _ _)
   | (with_reducible exact LeO.refl _)
   | (with_reducible exact LeO.none _)
   | (with_reducible refine LeO.ite ?_ ?_)
   | (with_reducible refine LeO.bind ?_ (fun _=>?_))
   | exact ih0 _ _
   | exact batonlaw03_awake.mono _
   | exact snappy_Decode.mono _ _ _
   | exact snappy_Encode.mono _ _
   | exact snappy_Size.mono _ _
   | exact LeO.none _
   | refine LeO.ite ?_ ?_
   | refine LeO.bind ?_ (fun _=>?_)
theorem batonlaw03_SnappyBack.mono : ∀ a0 k, LeO (batonlaw03_SnappyBack.f k a0) (batonlaw03_SnappyBack.f (k + 1) a0) := by
 intro a0 k
 have ih0 := batonlaw03_SnappyBack.mono_l k
 unfold batonlaw03_SnappyBack.f
 repeat' first
   | (with_reducible exact ih0 _ _)
   | (with_reducible exact batonlaw03_awake.mono _)
   | (with_reducible exact snappy_Decode.mono _ _ _)
   | (with_reducible exact snappy_Encode.mono _ _)
   | (with_reducible exact snappy_Size.mono _ _)
   | (with_reducible exact LeO.refl _)
   | (with_reducible exact LeO.none _)
   | (with_reducible refine LeO.ite ?_ ?_)
   | (with_reducible refine LeO.bind ?_ (fun _=>?_))
   | exact ih0 _ _
   | exact batonlaw03_awake.mono _
   | exact snappy_Decode.mono _ _ _
   | exact snappy_Encode.mono _ _
   | exact snappy_Size.mono _ _
   | exact LeO.none _
   | refine LeO.ite ?_ ?_
   | refine LeO.bind ?_ (fun _=>?_)
set_option maxHeartbeats 8000000 in
set_option maxRecDepth 100000 in
theorem batonlaw03_SnappyBack.calls (k : Nat) (a0 : ByteArray) (r : Bool) (w : World) (h : batonlaw03_SnappyBack.f k a0 = some r) :
  Calls Try.prog 6 #[.string a0] w fun e w'=>e = .returned (.bool r) ∧ Below w.heap.size w w' := by
 have HB := Aside0.mk (Below.refl w.heap.size w)
 have H : (if (a0.size : Int) > 3000 then (batonlaw03_SnappyBack.j0 k a0 true) else ((batonlaw03_awake.f k).bind fun t440=>(batonlaw03_SnappyBack.j0 k a0 (!t440)))) = some r := h
 clear h
 have HC2 := Aside0.mk H
 clear H
 go_enter Try.func6,Try.ntmps6
 go_upto_region 1 with (fail)
 go_cut [17] (fun v17 wc=>∃ (kq : Nat) (x17_1 : Bool),v17 = .bool x17_1 ∧ Aside0 (batonlaw03_SnappyBack.j0 kq a0 x17_1 = some r) ∧ Aside0 (kq ≤ k) ∧ Aside0 (Below w.heap.size w wc))
 case first =>
  have H := HC2.out
  clear HC2
  by_cases c3 : (a0.size : Int) > 3000
  ·rw [if_pos c3] at H
   have c3b0 : decide (3000 < (a0.size : Int)) = true := decide_eq_true c3
   have c3b1 : decide (3000 < a0.size) = true := decide_eq_true q75_
   clear c3
   (first|rw [c3b0]|(simp only [i64_w,i32_w];rw [c3b0])|skip)
   have H' := Aside0.mk H
   clear H
   go_wp2
   go_meet
   case rel=>exact ⟨_,(true),q4_,H',⟨q50_⟩,⟨bl_⟩⟩
  ·rw [if_neg c3] at H
   have c3b0 : decide (3000 < (a0.size : Int)) = false := decide_eq_false c3
   have c3b1 : decide (3000 < a0.size) = false := decide_eq_false q75_
   clear c3
   (first|rw [c3b0]|(simp only [i64_w,i32_w];rw [c3b0])|skip)
   replace H := Option.bind_eq_some_iff.mp H
   obtain ⟨t440,A40,H⟩ := H
   replace H : (batonlaw03_SnappyBack.j0 k a0 (!t440)) = some r := H
   have A4 := Aside0.mk A40
   clear A40
   have H' := Aside0.mk H
   clear H
   go_wp2_with (first|(go_at_call 12;(with_reducible refine (batonlaw03_awake.calls k  t440 _ A4.out).mono ?_);rintro e w5 ⟨rfl,hb⟩;have n0_ := Aside0.mk (below_step (bl_) hb);clear HB;have HB := n0_;clear n0_;(try clear hb);(try clear hb2);(try clear hk);(try clear hi)))
   go_meet
   case rel=>exact ⟨_,(!t440),q4_,H',⟨q50_⟩,⟨bl_⟩⟩
 case rest =>
  clear HC2
  try clear p2
  try clear c3
  try clear c3b0
  try clear c3b1
  obtain ⟨kq,x17_1,rfl,HA,HJ1,HB⟩ := hcut
  cases kq with
  | zero=>exact absurd HA.out (by simp [batonlaw03_SnappyBack.j0])
  | succ kj1 =>
   have H := HA.out
   clear HA
   simp only [batonlaw03_SnappyBack.j0] at H
   by_cases c6 : x17_1 = true
   ·subst c6
    have H1 : ((batonlaw03_awake.f kj1).bind fun t441=>(some t441)) = some r := by rw [if_pos rfl] at H;exact H
    clear H
    have H := H1
    clear H1
    replace H := Option.bind_eq_some_iff.mp H
    obtain ⟨t441,A70,H⟩ := H
    replace H : (some t441) = some r := H
    have A7 := Aside0.mk A70
    clear A70
    obtain rfl := Option.some.inj H
    go_wp2_with (first|((with_reducible refine gate_callee (f := 12) rfl ?_);refine goesL_ (some 18) rfl rfl Try.func12 q9_ rfl #[] rfl q0_ ?_;(with_reducible refine (batonlaw03_awake.calls kj1  t441 _ A7.out).mono ?_);rintro e w8 ⟨rfl,hb⟩;refine ⟨_,rfl,?_⟩;have n0_ := Aside0.mk (below_step (bl_) hb);clear HB;have HB := n0_;clear n0_;(try clear hb);(try clear hb2);(try clear hk);(try clear hi)))
    go_ret
    exact ⟨q1_,bl_⟩
   ·replace c6 := Bool.eq_false_iff.mpr c6
    subst c6
    have H1 : ((snappy_Encode.f kj1 a0).bind fun bt442=>((snappy_Decode.f kj1 bt442.1 (a0.size : Int)).bind fun bt444=>((snappy_Size.f kj1 bt442.1).bind fun bt446=>((snappy_Decode.f kj1 bt442.1 (wrap64 ((a0.size : Int) - 1))).bind fun bt448=>(if bt442.2 = 0 then (if bt444.2 = 0 then (if bt444.1.toList = a0.toList then (if bt446.2 = 0 then (if bt446.1 = (IntKind.u64.wrap ((a0.size : Int))) then (if bt448.2 = 40 then (some (decide ((bt442.1.size : Int) ≤ (wrap64 ((wrap64 ((wrap64 (3 + (a0.size : Int))) + (wrap64 ((a0.size : Int) / 30)))) + 4))))) else (some false)) else (some false)) else (some false)) else (some false)) else (some false)) else (some false)))))) = some r := by rw [if_neg (show ¬ (false = true) by decide)] at H;exact H
    clear H
    have H := H1
    clear H1
    replace H := Option.bind_eq_some_iff.mp H
    obtain ⟨⟨t442,t443⟩,A90,H⟩ := H
    replace H : ((snappy_Decode.f kj1 t442 (a0.size : Int)).bind fun bt444=>((snappy_Size.f kj1 t442).bind fun bt446=>((snappy_Decode.f kj1 t442 (wrap64 ((a0.size : Int) - 1))).bind fun bt448=>(if t443 = 0 then (if bt444.2 = 0 then (if bt444.1.toList = a0.toList then (if bt446.2 = 0 then (if bt446.1 = (IntKind.u64.wrap ((a0.size : Int))) then (if bt448.2 = 40 then (some (decide ((t442.size : Int) ≤ (wrap64 ((wrap64 ((wrap64 (3 + (a0.size : Int))) + (wrap64 ((a0.size : Int) / 30)))) + 4))))) else (some false)) else (some false)) else (some false)) else (some false)) else (some false)) else (some false))))) = some r := H
    have A9 := Aside0.mk A90
    clear A90
    replace H := Option.bind_eq_some_iff.mp H
    obtain ⟨⟨t444,t445⟩,A100,H⟩ := H
    replace H : ((snappy_Size.f kj1 t442).bind fun bt446=>((snappy_Decode.f kj1 t442 (wrap64 ((a0.size : Int) - 1))).bind fun bt448=>(if t443 = 0 then (if t445 = 0 then (if t444.toList = a0.toList then (if bt446.2 = 0 then (if bt446.1 = (IntKind.u64.wrap ((a0.size : Int))) then (if bt448.2 = 40 then (some (decide ((t442.size : Int) ≤ (wrap64 ((wrap64 ((wrap64 (3 + (a0.size : Int))) + (wrap64 ((a0.size : Int) / 30)))) + 4))))) else (some false)) else (some false)) else (some false)) else (some false)) else (some false)) else (some false)))) = some r := H
    have A10 := Aside0.mk A100
    clear A100
    replace H := Option.bind_eq_some_iff.mp H
    obtain ⟨⟨t446,t447⟩,A110,H⟩ := H
    replace H : ((snappy_Decode.f kj1 t442 (wrap64 ((a0.size : Int) - 1))).bind fun bt448=>(if t443 = 0 then (if t445 = 0 then (if t444.toList = a0.toList then (if t447 = 0 then (if t446 = (IntKind.u64.wrap ((a0.size : Int))) then (if bt448.2 = 40 then (some (decide ((t442.size : Int) ≤ (wrap64 ((wrap64 ((wrap64 (3 + (a0.size : Int))) + (wrap64 ((a0.size : Int) / 30)))) + 4))))) else (some false)) else (some false)) else (some false)) else (some false)) else (some false)) else (some false))) = some r := H
    have A11 := Aside0.mk A110
    clear A110
    replace H := Option.bind_eq_some_iff.mp H
    obtain ⟨⟨t448,t449⟩,A120,H⟩ := H
    replace H : (if t443 = 0 then (if t445 = 0 then (if t444.toList = a0.toList then (if t447 = 0 then (if t446 = (IntKind.u64.wrap ((a0.size : Int))) then (if t449 = 40 then (some (decide ((t442.size : Int) ≤ (wrap64 ((wrap64 ((wrap64 (3 + (a0.size : Int))) + (wrap64 ((a0.size : Int) / 30)))) + 4))))) else (some false)) else (some false)) else (some false)) else (some false)) else (some false)) else (some false)) = some r := H
    have A12 := Aside0.mk A120
    clear A120
    by_cases c13 : t443 = 0
    ·rw [if_pos c13] at H
     have c13b0 : (t443 == 0) = true := beq_iff_eq.mpr c13
     have c13b1 : (t443 != 0) = false := bne_eq_false_iff_eq.mpr c13
     clear c13
     by_cases c14 : t445 = 0
     ·rw [if_pos c14] at H
      have c14b0 : (t445 == 0) = true := beq_iff_eq.mpr c14
      have c14b1 : (t445 != 0) = false := bne_eq_false_iff_eq.mpr c14
      clear c14
      by_cases c15 : t444.toList = a0.toList
      ·rw [if_pos c15] at H
       have c15b0 : (t444.toList == a0.toList) = true := beq_iff_eq.mpr c15
       have c15b1 : (t444.toList != a0.toList) = false := bne_eq_false_iff_eq.mpr c15
       clear c15
       by_cases c16 : t447 = 0
       ·rw [if_pos c16] at H
        have c16b0 : (t447 == 0) = true := beq_iff_eq.mpr c16
        have c16b1 : (t447 != 0) = false := bne_eq_false_iff_eq.mpr c16
        clear c16
        by_cases c17 : t446 = (IntKind.u64.wrap ((a0.size : Int)))
        ·rw [if_pos c17] at H
         have c17b0 : (t446 == (IntKind.u64.wrap ((a0.size : Int)))) = true := beq_iff_eq.mpr c17
         have c17b1 : (t446 != (IntKind.u64.wrap ((a0.size : Int)))) = false := bne_eq_false_iff_eq.mpr c17
         clear c17
         by_cases c18 : t449 = 40
         ·rw [if_pos c18] at H
          have c18b0 : (t449 == 40) = true := beq_iff_eq.mpr c18
          have c18b1 : (t449 != 40) = false := bne_eq_false_iff_eq.mpr c18
          clear c18
          obtain rfl := Option.some.inj H
          go_wp2_with (first|((with_reducible refine gate_callee (f := 14) rfl ?_);refine goesL_ (some 21) rfl rfl Try.func14 q9_ rfl #[.string a0] rfl q0_ ?_;(with_reducible refine (snappy_Encode.calls kj1 a0 t442 t443 _ A9.out).mono ?_);rintro e w19 ⟨rfl,hb⟩;refine ⟨_,rfl,?_⟩;have n0_ := Aside0.mk (below_step (bl_) hb);clear HB;have HB := n0_;clear n0_;(try clear hb);(try clear hb2);(try clear hk);(try clear hi))|((with_reducible refine gate_callee (f := 13) rfl ?_);refine goesL_ (some 28) rfl rfl Try.func13 q9_ rfl #[.string t442,.int .i64 (a0.size : Int)] rfl q0_ ?_;(with_reducible refine (snappy_Decode.calls kj1 t442 (a0.size : Int) t444 t445 _ A10.out).mono ?_);rintro e w20 ⟨rfl,hb⟩;refine ⟨_,rfl,?_⟩;have n0_ := Aside0.mk (below_step (bl_) hb);clear HB;have HB := n0_;clear n0_;(try clear hb);(try clear hb2);(try clear hk);(try clear hi))|((with_reducible refine gate_callee (f := 27) rfl ?_);refine goesL_ (some 33) rfl rfl Try.func27 q9_ rfl #[.string t442] rfl q0_ ?_;(with_reducible refine (snappy_Size.calls kj1 t442 t446 t447 _ A11.out).mono ?_);rintro e w' ⟨rfl,⟨nd,rfl⟩⟩;refine ⟨_,rfl,?_⟩)|((with_reducible refine gate_callee (f := 13) rfl ?_);refine goesL_ (some 41) rfl rfl Try.func13 q9_ rfl #[.string t442,.int .i64 (wrap64 ((a0.size : Int) - 1))] rfl q0_ ?_;(with_reducible refine (snappy_Decode.calls kj1 t442 (wrap64 ((a0.size : Int) - 1)) t448 t449 _ A12.out).mono ?_);rintro e w21 ⟨rfl,hb⟩;refine ⟨_,rfl,?_⟩;have n0_ := Aside0.mk (below_step (bl_) hb);clear HB;have HB := n0_;clear n0_;(try clear hb);(try clear hb2);(try clear hk);(try clear hi)))
          go_ret
          exact ⟨q1_,bl_⟩
         ·rw [if_neg c18] at H
          have c18b0 : (t449 == 40) = false := beq_eq_false_iff_ne.mpr c18
          have c18b1 : (t449 != 40) = true := bne_iff_ne.mpr c18
          obtain rfl := Option.some.inj H
          go_wp2_with (first|((with_reducible refine gate_callee (f := 14) rfl ?_);refine goesL_ (some 21) rfl rfl Try.func14 q9_ rfl #[.string a0] rfl q0_ ?_;(with_reducible refine (snappy_Encode.calls kj1 a0 t442 t443 _ A9.out).mono ?_);rintro e w22 ⟨rfl,hb⟩;refine ⟨_,rfl,?_⟩;have n0_ := Aside0.mk (below_step (bl_) hb);clear HB;have HB := n0_;clear n0_;(try clear hb);(try clear hb2);(try clear hk);(try clear hi))|((with_reducible refine gate_callee (f := 13) rfl ?_);refine goesL_ (some 28) rfl rfl Try.func13 q9_ rfl #[.string t442,.int .i64 (a0.size : Int)] rfl q0_ ?_;(with_reducible refine (snappy_Decode.calls kj1 t442 (a0.size : Int) t444 t445 _ A10.out).mono ?_);rintro e w23 ⟨rfl,hb⟩;refine ⟨_,rfl,?_⟩;have n0_ := Aside0.mk (below_step (bl_) hb);clear HB;have HB := n0_;clear n0_;(try clear hb);(try clear hb2);(try clear hk);(try clear hi))|((with_reducible refine gate_callee (f := 27) rfl ?_);refine goesL_ (some 33) rfl rfl Try.func27 q9_ rfl #[.string t442] rfl q0_ ?_;(with_reducible refine (snappy_Size.calls kj1 t442 t446 t447 _ A11.out).mono ?_);rintro e w' ⟨rfl,⟨nd,rfl⟩⟩;refine ⟨_,rfl,?_⟩)|((with_reducible refine gate_callee (f := 13) rfl ?_);refine goesL_ (some 41) rfl rfl Try.func13 q9_ rfl #[.string t442,.int .i64 (wrap64 ((a0.size : Int) - 1))] rfl q0_ ?_;(with_reducible refine (snappy_Decode.calls kj1 t442 (wrap64 ((a0.size : Int) - 1)) t448 t449 _ A12.out).mono ?_);rintro e w24 ⟨rfl,hb⟩;refine ⟨_,rfl,?_⟩;have n0_ := Aside0.mk (below_step (bl_) hb);clear HB;have HB := n0_;clear n0_;(try clear hb);(try clear hb2);(try clear hk);(try clear hi)))
          go_ret
          exact ⟨q1_,bl_⟩
        ·rw [if_neg c17] at H
         have c17b0 : (t446 == (IntKind.u64.wrap ((a0.size : Int)))) = false := beq_eq_false_iff_ne.mpr c17
         have c17b1 : (t446 != (IntKind.u64.wrap ((a0.size : Int)))) = true := bne_iff_ne.mpr c17
         obtain rfl := Option.some.inj H
         go_wp2_with (first|((with_reducible refine gate_callee (f := 14) rfl ?_);refine goesL_ (some 21) rfl rfl Try.func14 q9_ rfl #[.string a0] rfl q0_ ?_;(with_reducible refine (snappy_Encode.calls kj1 a0 t442 t443 _ A9.out).mono ?_);rintro e w25 ⟨rfl,hb⟩;refine ⟨_,rfl,?_⟩;have n0_ := Aside0.mk (below_step (bl_) hb);clear HB;have HB := n0_;clear n0_;(try clear hb);(try clear hb2);(try clear hk);(try clear hi))|((with_reducible refine gate_callee (f := 13) rfl ?_);refine goesL_ (some 28) rfl rfl Try.func13 q9_ rfl #[.string t442,.int .i64 (a0.size : Int)] rfl q0_ ?_;(with_reducible refine (snappy_Decode.calls kj1 t442 (a0.size : Int) t444 t445 _ A10.out).mono ?_);rintro e w26 ⟨rfl,hb⟩;refine ⟨_,rfl,?_⟩;have n0_ := Aside0.mk (below_step (bl_) hb);clear HB;have HB := n0_;clear n0_;(try clear hb);(try clear hb2);(try clear hk);(try clear hi))|((with_reducible refine gate_callee (f := 27) rfl ?_);refine goesL_ (some 33) rfl rfl Try.func27 q9_ rfl #[.string t442] rfl q0_ ?_;(with_reducible refine (snappy_Size.calls kj1 t442 t446 t447 _ A11.out).mono ?_);rintro e w' ⟨rfl,⟨nd,rfl⟩⟩;refine ⟨_,rfl,?_⟩)|((with_reducible refine gate_callee (f := 13) rfl ?_);refine goesL_ (some 41) rfl rfl Try.func13 q9_ rfl #[.string t442,.int .i64 (wrap64 ((a0.size : Int) - 1))] rfl q0_ ?_;(with_reducible refine (snappy_Decode.calls kj1 t442 (wrap64 ((a0.size : Int) - 1)) t448 t449 _ A12.out).mono ?_);rintro e w27 ⟨rfl,hb⟩;refine ⟨_,rfl,?_⟩;have n0_ := Aside0.mk (below_step (bl_) hb);clear HB;have HB := n0_;clear n0_;(try clear hb);(try clear hb2);(try clear hk);(try clear hi)))
         go_ret
         exact ⟨q1_,bl_⟩
       ·rw [if_neg c16] at H
        have c16b0 : (t447 == 0) = false := beq_eq_false_iff_ne.mpr c16
        have c16b1 : (t447 != 0) = true := bne_iff_ne.mpr c16
        obtain rfl := Option.some.inj H
        go_wp2_with (first|((with_reducible refine gate_callee (f := 14) rfl ?_);refine goesL_ (some 21) rfl rfl Try.func14 q9_ rfl #[.string a0] rfl q0_ ?_;(with_reducible refine (snappy_Encode.calls kj1 a0 t442 t443 _ A9.out).mono ?_);rintro e w28 ⟨rfl,hb⟩;refine ⟨_,rfl,?_⟩;have n0_ := Aside0.mk (below_step (bl_) hb);clear HB;have HB := n0_;clear n0_;(try clear hb);(try clear hb2);(try clear hk);(try clear hi))|((with_reducible refine gate_callee (f := 13) rfl ?_);refine goesL_ (some 28) rfl rfl Try.func13 q9_ rfl #[.string t442,.int .i64 (a0.size : Int)] rfl q0_ ?_;(with_reducible refine (snappy_Decode.calls kj1 t442 (a0.size : Int) t444 t445 _ A10.out).mono ?_);rintro e w29 ⟨rfl,hb⟩;refine ⟨_,rfl,?_⟩;have n0_ := Aside0.mk (below_step (bl_) hb);clear HB;have HB := n0_;clear n0_;(try clear hb);(try clear hb2);(try clear hk);(try clear hi))|((with_reducible refine gate_callee (f := 27) rfl ?_);refine goesL_ (some 33) rfl rfl Try.func27 q9_ rfl #[.string t442] rfl q0_ ?_;(with_reducible refine (snappy_Size.calls kj1 t442 t446 t447 _ A11.out).mono ?_);rintro e w' ⟨rfl,⟨nd,rfl⟩⟩;refine ⟨_,rfl,?_⟩)|((with_reducible refine gate_callee (f := 13) rfl ?_);refine goesL_ (some 41) rfl rfl Try.func13 q9_ rfl #[.string t442,.int .i64 (wrap64 ((a0.size : Int) - 1))] rfl q0_ ?_;(with_reducible refine (snappy_Decode.calls kj1 t442 (wrap64 ((a0.size : Int) - 1)) t448 t449 _ A12.out).mono ?_);rintro e w30 ⟨rfl,hb⟩;refine ⟨_,rfl,?_⟩;have n0_ := Aside0.mk (below_step (bl_) hb);clear HB;have HB := n0_;clear n0_;(try clear hb);(try clear hb2);(try clear hk);(try clear hi)))
        go_ret
        exact ⟨q1_,bl_⟩
      ·rw [if_neg c15] at H
       have c15b0 : (t444.toList == a0.toList) = false := beq_eq_false_iff_ne.mpr c15
       have c15b1 : (t444.toList != a0.toList) = true := bne_iff_ne.mpr c15
       obtain rfl := Option.some.inj H
       go_wp2_with (first|((with_reducible refine gate_callee (f := 14) rfl ?_);refine goesL_ (some 21) rfl rfl Try.func14 q9_ rfl #[.string a0] rfl q0_ ?_;(with_reducible refine (snappy_Encode.calls kj1 a0 t442 t443 _ A9.out).mono ?_);rintro e w31 ⟨rfl,hb⟩;refine ⟨_,rfl,?_⟩;have n0_ := Aside0.mk (below_step (bl_) hb);clear HB;have HB := n0_;clear n0_;(try clear hb);(try clear hb2);(try clear hk);(try clear hi))|((with_reducible refine gate_callee (f := 13) rfl ?_);refine goesL_ (some 28) rfl rfl Try.func13 q9_ rfl #[.string t442,.int .i64 (a0.size : Int)] rfl q0_ ?_;(with_reducible refine (snappy_Decode.calls kj1 t442 (a0.size : Int) t444 t445 _ A10.out).mono ?_);rintro e w32 ⟨rfl,hb⟩;refine ⟨_,rfl,?_⟩;have n0_ := Aside0.mk (below_step (bl_) hb);clear HB;have HB := n0_;clear n0_;(try clear hb);(try clear hb2);(try clear hk);(try clear hi))|((with_reducible refine gate_callee (f := 27) rfl ?_);refine goesL_ (some 33) rfl rfl Try.func27 q9_ rfl #[.string t442] rfl q0_ ?_;(with_reducible refine (snappy_Size.calls kj1 t442 t446 t447 _ A11.out).mono ?_);rintro e w' ⟨rfl,⟨nd,rfl⟩⟩;refine ⟨_,rfl,?_⟩)|((with_reducible refine gate_callee (f := 13) rfl ?_);refine goesL_ (some 41) rfl rfl Try.func13 q9_ rfl #[.string t442,.int .i64 (wrap64 ((a0.size : Int) - 1))] rfl q0_ ?_;(with_reducible refine (snappy_Decode.calls kj1 t442 (wrap64 ((a0.size : Int) - 1)) t448 t449 _ A12.out).mono ?_);rintro e w33 ⟨rfl,hb⟩;refine ⟨_,rfl,?_⟩;have n0_ := Aside0.mk (below_step (bl_) hb);clear HB;have HB := n0_;clear n0_;(try clear hb);(try clear hb2);(try clear hk);(try clear hi)))
       go_ret
       exact ⟨q1_,bl_⟩
     ·rw [if_neg c14] at H
      have c14b0 : (t445 == 0) = false := beq_eq_false_iff_ne.mpr c14
      have c14b1 : (t445 != 0) = true := bne_iff_ne.mpr c14
      obtain rfl := Option.some.inj H
      go_wp2_with (first|((with_reducible refine gate_callee (f := 14) rfl ?_);refine goesL_ (some 21) rfl rfl Try.func14 q9_ rfl #[.string a0] rfl q0_ ?_;(with_reducible refine (snappy_Encode.calls kj1 a0 t442 t443 _ A9.out).mono ?_);rintro e w34 ⟨rfl,hb⟩;refine ⟨_,rfl,?_⟩;have n0_ := Aside0.mk (below_step (bl_) hb);clear HB;have HB := n0_;clear n0_;(try clear hb);(try clear hb2);(try clear hk);(try clear hi))|((with_reducible refine gate_callee (f := 13) rfl ?_);refine goesL_ (some 28) rfl rfl Try.func13 q9_ rfl #[.string t442,.int .i64 (a0.size : Int)] rfl q0_ ?_;(with_reducible refine (snappy_Decode.calls kj1 t442 (a0.size : Int) t444 t445 _ A10.out).mono ?_);rintro e w35 ⟨rfl,hb⟩;refine ⟨_,rfl,?_⟩;have n0_ := Aside0.mk (below_step (bl_) hb);clear HB;have HB := n0_;clear n0_;(try clear hb);(try clear hb2);(try clear hk);(try clear hi))|((with_reducible refine gate_callee (f := 27) rfl ?_);refine goesL_ (some 33) rfl rfl Try.func27 q9_ rfl #[.string t442] rfl q0_ ?_;(with_reducible refine (snappy_Size.calls kj1 t442 t446 t447 _ A11.out).mono ?_);rintro e w' ⟨rfl,⟨nd,rfl⟩⟩;refine ⟨_,rfl,?_⟩)|((with_reducible refine gate_callee (f := 13) rfl ?_);refine goesL_ (some 41) rfl rfl Try.func13 q9_ rfl #[.string t442,.int .i64 (wrap64 ((a0.size : Int) - 1))] rfl q0_ ?_;(with_reducible refine (snappy_Decode.calls kj1 t442 (wrap64 ((a0.size : Int) - 1)) t448 t449 _ A12.out).mono ?_);rintro e w36 ⟨rfl,hb⟩;refine ⟨_,rfl,?_⟩;have n0_ := Aside0.mk (below_step (bl_) hb);clear HB;have HB := n0_;clear n0_;(try clear hb);(try clear hb2);(try clear hk);(try clear hi)))
      go_ret
      exact ⟨q1_,bl_⟩
    ·rw [if_neg c13] at H
     have c13b0 : (t443 == 0) = false := beq_eq_false_iff_ne.mpr c13
     have c13b1 : (t443 != 0) = true := bne_iff_ne.mpr c13
     obtain rfl := Option.some.inj H
     go_wp2_with (first|((with_reducible refine gate_callee (f := 14) rfl ?_);refine goesL_ (some 21) rfl rfl Try.func14 q9_ rfl #[.string a0] rfl q0_ ?_;(with_reducible refine (snappy_Encode.calls kj1 a0 t442 t443 _ A9.out).mono ?_);rintro e w37 ⟨rfl,hb⟩;refine ⟨_,rfl,?_⟩;have n0_ := Aside0.mk (below_step (bl_) hb);clear HB;have HB := n0_;clear n0_;(try clear hb);(try clear hb2);(try clear hk);(try clear hi))|((with_reducible refine gate_callee (f := 13) rfl ?_);refine goesL_ (some 28) rfl rfl Try.func13 q9_ rfl #[.string t442,.int .i64 (a0.size : Int)] rfl q0_ ?_;(with_reducible refine (snappy_Decode.calls kj1 t442 (a0.size : Int) t444 t445 _ A10.out).mono ?_);rintro e w38 ⟨rfl,hb⟩;refine ⟨_,rfl,?_⟩;have n0_ := Aside0.mk (below_step (bl_) hb);clear HB;have HB := n0_;clear n0_;(try clear hb);(try clear hb2);(try clear hk);(try clear hi))|((with_reducible refine gate_callee (f := 27) rfl ?_);refine goesL_ (some 33) rfl rfl Try.func27 q9_ rfl #[.string t442] rfl q0_ ?_;(with_reducible refine (snappy_Size.calls kj1 t442 t446 t447 _ A11.out).mono ?_);rintro e w' ⟨rfl,⟨nd,rfl⟩⟩;refine ⟨_,rfl,?_⟩)|((with_reducible refine gate_callee (f := 13) rfl ?_);refine goesL_ (some 41) rfl rfl Try.func13 q9_ rfl #[.string t442,.int .i64 (wrap64 ((a0.size : Int) - 1))] rfl q0_ ?_;(with_reducible refine (snappy_Decode.calls kj1 t442 (wrap64 ((a0.size : Int) - 1)) t448 t449 _ A12.out).mono ?_);rintro e w39 ⟨rfl,hb⟩;refine ⟨_,rfl,?_⟩;have n0_ := Aside0.mk (below_step (bl_) hb);clear HB;have HB := n0_;clear n0_;(try clear hb);(try clear hb2);(try clear hk);(try clear hi)))
     go_ret
     exact ⟨q1_,bl_⟩

/-- THE ONE PURE STATEMENT of batonlaw03_SnappyBack: yours. -/
def batonlaw03_SnappyBack.Pure : Prop := ∀ (a0 : ByteArray), a0.size ≤ 140737488351232 → ∃ k, batonlaw03_SnappyBack.f k a0 = some true
theorem batonlaw03_SnappyBack.walk (P : batonlaw03_SnappyBack.Pure) (a0 : ByteArray) (w : World) (w0 : a0.size ≤ 140737488351232) :
  Calls Try.prog 6 #[.string a0] w fun e w'=>e = .returned (.bool true) ∧ Below w.heap.size w w' := by
 obtain ⟨k,h⟩ := P a0 w0
 refine (batonlaw03_SnappyBack.calls k a0 true w h).mono ?_
 rintro e w' ⟨rfl,hd⟩
 exact ⟨rfl,hd⟩

end Go.Proofs.Ythcjcmgdblhhfaa.PV

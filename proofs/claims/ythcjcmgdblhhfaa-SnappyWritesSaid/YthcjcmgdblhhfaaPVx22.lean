/- The machine side of these statements: what each Go function computes as a plain function, and that its call computes just that. Written by a program of mine (wip/drive.py). No conditions. -/
import Derived.Test.YthcjcmgdblhhfaaPVx0
namespace Go.Proofs.Ythcjcmgdblhhfaa.PV
open Go.RowKit Go.Proofs.YthcjcmgdblhhfaaW.PrintWords Go.Proofs.YthcjcmgdblhhfaaW.PrintLast Go.Proofs.YthcjcmgdblhhfaaW.PrintMore
attribute [local go_sem] max2_int min2_int max_two min_two max_three min_three max_four min_four   -- for this text's walks alone
set_option linter.unusedVariables false
set_option linter.unusedSimpArgs false

/-! ### batonref03_May: function 44 -/
def batonref03_May.f (a0_0 : Bool) (a0_1 : ByteArray) (a0_2 : Int) (a0_3 : Int) : Option (Bool) := if a0_0 = true then (if a0_1.toList = ([] : List UInt8) then (if a0_3 ≥ 1 then (if a0_3 ≤ 64 then (if a0_2 ≥ 1 then (some (decide (a0_2 ≤ 4294967295))) else (some false)) else (some false)) else (some false)) else (some false)) else (if (a0_1.size : Int) ≥ 1 then (if (a0_1.size : Int) ≤ 65536 then (if a0_3 = 0 then (some (a0_2 == 0)) else (some false)) else (some false)) else (some false))
set_option maxHeartbeats 8000000 in
set_option maxRecDepth 100000 in
theorem batonref03_May.calls (a0_0 : Bool) (a0_1 : ByteArray) (a0_2 : Int) (a0_3 : Int) (r : Bool) (w : World) (h : batonref03_May.f a0_0 a0_1 a0_2 a0_3 = some r) :
  Calls Try.prog 44 #[.agg #[.bool a0_0,.string a0_1,.int .i64 a0_2,.int .i64 a0_3]] w fun e w'=>e = .returned (.bool r) ∧ Below w.heap.size w w' := by
 have hu72 := Try.underlying72
 have HB := Aside0.mk (Below.refl w.heap.size w)
 have H : (if a0_0 = true then (if a0_1.toList = ([] : List UInt8) then (if a0_3 ≥ 1 then (if a0_3 ≤ 64 then (if a0_2 ≥ 1 then (some (decide (a0_2 ≤ 4294967295))) else (some false)) else (some false)) else (some false)) else (some false)) else (if (a0_1.size : Int) ≥ 1 then (if (a0_1.size : Int) ≤ 65536 then (if a0_3 = 0 then (some (a0_2 == 0)) else (some false)) else (some false)) else (some false))) = some r := h
 clear h
 by_cases c2 : a0_0 = true
 ·subst c2
  have H1 : (if a0_1.toList = ([] : List UInt8) then (if a0_3 ≥ 1 then (if a0_3 ≤ 64 then (if a0_2 ≥ 1 then (some (decide (a0_2 ≤ 4294967295))) else (some false)) else (some false)) else (some false)) else (some false)) = some r := by rw [if_pos rfl] at H;exact H
  clear H
  have H := H1
  clear H1
  by_cases c3 : a0_1.toList = ([] : List UInt8)
  ·rw [if_pos c3] at H
   have c3b0 : (a0_1.toList == ([] : List UInt8)) = true := beq_iff_eq.mpr c3
   have c3b1 : (a0_1.toList != ([] : List UInt8)) = false := bne_eq_false_iff_eq.mpr c3
   clear c3
   by_cases c4 : a0_3 ≥ 1
   ·rw [if_pos c4] at H
    have c4b0 : decide (1 ≤ a0_3) = true := decide_eq_true c4
    clear c4
    by_cases c5 : a0_3 ≤ 64
    ·rw [if_pos c5] at H
     have c5b0 : decide (a0_3 ≤ 64) = true := decide_eq_true c5
     clear c5
     by_cases c6 : a0_2 ≥ 1
     ·rw [if_pos c6] at H
      have c6b0 : decide (1 ≤ a0_2) = true := decide_eq_true c6
      clear c6
      obtain rfl := Option.some.inj H
      go_enter Try.func44,Try.ntmps44
      go_wp2_with (first|((with_reducible refine gate_dst (N := 1) rfl ?_);(try (refine gate_guard (by rfl) ?_;dsimp only));refine box_event ?hg (N := 1) ?hd (cs := #[.bool true,.string a0_1,.int .i64 a0_2,.int .i64 a0_3]) (t := 72) ?hr ?_;(case hd=>rfl);(case hg=>rfl);(case hr=>first|(go_simp;done)|(go_simp;rfl)|(go_simp;simp [my_u8w];done));intro gb347 hg w7 hbox hb;have n0_ := Aside0.mk (below_step (bl_) hb);have n1_ := Aside0.mk (hbox);have n2_ := Aside0.mk ((by rw [hg];exact (below_size (bl_)) : w.heap.size ≤ gb347));have n3_ := Aside0.mk ((by rw [hg];exact (below_size (bl_)) : w.heap.size ≤ gb347));clear HB;have HB := n0_;have BK347 := n1_;have GW347 := n2_;have GE347 := n3_;clear n0_ n1_ n2_ n3_;clear hb hbox hg;have hcz8_0 : w7.cell? ⟨gb347,0,none⟩ = some (.bool true) := (blk_cell BK347.out 0).trans rfl;have hcz8_1 : w7.cell? ⟨gb347,1,none⟩ = some (.string a0_1) := (blk_cell BK347.out 1).trans rfl;have hcz8_2 : w7.cell? ⟨gb347,2,none⟩ = some (.int .i64 a0_2) := (blk_cell BK347.out 2).trans rfl;have hcz8_3 : w7.cell? ⟨gb347,3,none⟩ = some (.int .i64 a0_3) := (blk_cell BK347.out 3).trans rfl;have hfz8_0 := blk_frozen BK347.out 0;have hfz8_1 := blk_frozen BK347.out 1;have hfz8_2 := blk_frozen BK347.out 2;have hfz8_3 := blk_frozen BK347.out 3))
      go_ret
      exact ⟨q1_,q43_⟩
     ·rw [if_neg c6] at H
      have c6b0 : decide (1 ≤ a0_2) = false := decide_eq_false c6
      clear c6
      obtain rfl := Option.some.inj H
      go_enter Try.func44,Try.ntmps44
      go_wp2_with (first|((with_reducible refine gate_dst (N := 1) rfl ?_);(try (refine gate_guard (by rfl) ?_;dsimp only));refine box_event ?hg (N := 1) ?hd (cs := #[.bool true,.string a0_1,.int .i64 a0_2,.int .i64 a0_3]) (t := 72) ?hr ?_;(case hd=>rfl);(case hg=>rfl);(case hr=>first|(go_simp;done)|(go_simp;rfl)|(go_simp;simp [my_u8w];done));intro gb347 hg w9 hbox hb;have n0_ := Aside0.mk (below_step (bl_) hb);have n1_ := Aside0.mk (hbox);have n2_ := Aside0.mk ((by rw [hg];exact (below_size (bl_)) : w.heap.size ≤ gb347));have n3_ := Aside0.mk ((by rw [hg];exact (below_size (bl_)) : w.heap.size ≤ gb347));clear HB;have HB := n0_;have BK347 := n1_;have GW347 := n2_;have GE347 := n3_;clear n0_ n1_ n2_ n3_;clear hb hbox hg;have hcz10_0 : w9.cell? ⟨gb347,0,none⟩ = some (.bool true) := (blk_cell BK347.out 0).trans rfl;have hcz10_1 : w9.cell? ⟨gb347,1,none⟩ = some (.string a0_1) := (blk_cell BK347.out 1).trans rfl;have hcz10_2 : w9.cell? ⟨gb347,2,none⟩ = some (.int .i64 a0_2) := (blk_cell BK347.out 2).trans rfl;have hcz10_3 : w9.cell? ⟨gb347,3,none⟩ = some (.int .i64 a0_3) := (blk_cell BK347.out 3).trans rfl;have hfz10_0 := blk_frozen BK347.out 0;have hfz10_1 := blk_frozen BK347.out 1;have hfz10_2 := blk_frozen BK347.out 2;have hfz10_3 := blk_frozen BK347.out 3))
      go_ret
      exact ⟨q1_,q43_⟩
    ·rw [if_neg c5] at H
     have c5b0 : decide (a0_3 ≤ 64) = false := decide_eq_false c5
     clear c5
     obtain rfl := Option.some.inj H
     go_enter Try.func44,Try.ntmps44
     go_wp2_with (first|((with_reducible refine gate_dst (N := 1) rfl ?_);(try (refine gate_guard (by rfl) ?_;dsimp only));refine box_event ?hg (N := 1) ?hd (cs := #[.bool true,.string a0_1,.int .i64 a0_2,.int .i64 a0_3]) (t := 72) ?hr ?_;(case hd=>rfl);(case hg=>rfl);(case hr=>first|(go_simp;done)|(go_simp;rfl)|(go_simp;simp [my_u8w];done));intro gb347 hg w11 hbox hb;have n0_ := Aside0.mk (below_step (bl_) hb);have n1_ := Aside0.mk (hbox);have n2_ := Aside0.mk ((by rw [hg];exact (below_size (bl_)) : w.heap.size ≤ gb347));have n3_ := Aside0.mk ((by rw [hg];exact (below_size (bl_)) : w.heap.size ≤ gb347));clear HB;have HB := n0_;have BK347 := n1_;have GW347 := n2_;have GE347 := n3_;clear n0_ n1_ n2_ n3_;clear hb hbox hg;have hcz12_0 : w11.cell? ⟨gb347,0,none⟩ = some (.bool true) := (blk_cell BK347.out 0).trans rfl;have hcz12_1 : w11.cell? ⟨gb347,1,none⟩ = some (.string a0_1) := (blk_cell BK347.out 1).trans rfl;have hcz12_2 : w11.cell? ⟨gb347,2,none⟩ = some (.int .i64 a0_2) := (blk_cell BK347.out 2).trans rfl;have hcz12_3 : w11.cell? ⟨gb347,3,none⟩ = some (.int .i64 a0_3) := (blk_cell BK347.out 3).trans rfl;have hfz12_0 := blk_frozen BK347.out 0;have hfz12_1 := blk_frozen BK347.out 1;have hfz12_2 := blk_frozen BK347.out 2;have hfz12_3 := blk_frozen BK347.out 3))
     go_ret
     exact ⟨q1_,q43_⟩
   ·rw [if_neg c4] at H
    have c4b0 : decide (1 ≤ a0_3) = false := decide_eq_false c4
    clear c4
    obtain rfl := Option.some.inj H
    go_enter Try.func44,Try.ntmps44
    go_wp2_with (first|((with_reducible refine gate_dst (N := 1) rfl ?_);(try (refine gate_guard (by rfl) ?_;dsimp only));refine box_event ?hg (N := 1) ?hd (cs := #[.bool true,.string a0_1,.int .i64 a0_2,.int .i64 a0_3]) (t := 72) ?hr ?_;(case hd=>rfl);(case hg=>rfl);(case hr=>first|(go_simp;done)|(go_simp;rfl)|(go_simp;simp [my_u8w];done));intro gb347 hg w13 hbox hb;have n0_ := Aside0.mk (below_step (bl_) hb);have n1_ := Aside0.mk (hbox);have n2_ := Aside0.mk ((by rw [hg];exact (below_size (bl_)) : w.heap.size ≤ gb347));have n3_ := Aside0.mk ((by rw [hg];exact (below_size (bl_)) : w.heap.size ≤ gb347));clear HB;have HB := n0_;have BK347 := n1_;have GW347 := n2_;have GE347 := n3_;clear n0_ n1_ n2_ n3_;clear hb hbox hg;have hcz14_0 : w13.cell? ⟨gb347,0,none⟩ = some (.bool true) := (blk_cell BK347.out 0).trans rfl;have hcz14_1 : w13.cell? ⟨gb347,1,none⟩ = some (.string a0_1) := (blk_cell BK347.out 1).trans rfl;have hcz14_2 : w13.cell? ⟨gb347,2,none⟩ = some (.int .i64 a0_2) := (blk_cell BK347.out 2).trans rfl;have hcz14_3 : w13.cell? ⟨gb347,3,none⟩ = some (.int .i64 a0_3) := (blk_cell BK347.out 3).trans rfl;have hfz14_0 := blk_frozen BK347.out 0;have hfz14_1 := blk_frozen BK347.out 1;have hfz14_2 := blk_frozen BK347.out 2;have hfz14_3 := blk_frozen BK347.out 3))
    go_ret
    exact ⟨q1_,q43_⟩
  ·rw [if_neg c3] at H
   have c3b0 : (a0_1.toList == ([] : List UInt8)) = false := beq_eq_false_iff_ne.mpr c3
   have c3b1 : (a0_1.toList != ([] : List UInt8)) = true := bne_iff_ne.mpr c3
   obtain rfl := Option.some.inj H
   go_enter Try.func44,Try.ntmps44
   go_wp2_with (first|((with_reducible refine gate_dst (N := 1) rfl ?_);(try (refine gate_guard (by rfl) ?_;dsimp only));refine box_event ?hg (N := 1) ?hd (cs := #[.bool true,.string a0_1,.int .i64 a0_2,.int .i64 a0_3]) (t := 72) ?hr ?_;(case hd=>rfl);(case hg=>rfl);(case hr=>first|(go_simp;done)|(go_simp;rfl)|(go_simp;simp [my_u8w];done));intro gb347 hg w15 hbox hb;have n0_ := Aside0.mk (below_step (bl_) hb);have n1_ := Aside0.mk (hbox);have n2_ := Aside0.mk ((by rw [hg];exact (below_size (bl_)) : w.heap.size ≤ gb347));have n3_ := Aside0.mk ((by rw [hg];exact (below_size (bl_)) : w.heap.size ≤ gb347));clear HB;have HB := n0_;have BK347 := n1_;have GW347 := n2_;have GE347 := n3_;clear n0_ n1_ n2_ n3_;clear hb hbox hg;have hcz16_0 : w15.cell? ⟨gb347,0,none⟩ = some (.bool true) := (blk_cell BK347.out 0).trans rfl;have hcz16_1 : w15.cell? ⟨gb347,1,none⟩ = some (.string a0_1) := (blk_cell BK347.out 1).trans rfl;have hcz16_2 : w15.cell? ⟨gb347,2,none⟩ = some (.int .i64 a0_2) := (blk_cell BK347.out 2).trans rfl;have hcz16_3 : w15.cell? ⟨gb347,3,none⟩ = some (.int .i64 a0_3) := (blk_cell BK347.out 3).trans rfl;have hfz16_0 := blk_frozen BK347.out 0;have hfz16_1 := blk_frozen BK347.out 1;have hfz16_2 := blk_frozen BK347.out 2;have hfz16_3 := blk_frozen BK347.out 3))
   go_ret
   exact ⟨q1_,q43_⟩
 ·replace c2 := Bool.eq_false_iff.mpr c2
  subst c2
  have H1 : (if (a0_1.size : Int) ≥ 1 then (if (a0_1.size : Int) ≤ 65536 then (if a0_3 = 0 then (some (a0_2 == 0)) else (some false)) else (some false)) else (some false)) = some r := by rw [if_neg (show ¬ (false = true) by decide)] at H;exact H
  clear H
  have H := H1
  clear H1
  by_cases c17 : (a0_1.size : Int) ≥ 1
  ·rw [if_pos c17] at H
   have c17b0 : decide (1 ≤ (a0_1.size : Int)) = true := decide_eq_true c17
   have c17b1 : decide (1 ≤ a0_1.size) = true := decide_eq_true q75_
   clear c17
   by_cases c18 : (a0_1.size : Int) ≤ 65536
   ·rw [if_pos c18] at H
    have c18b0 : decide ((a0_1.size : Int) ≤ 65536) = true := decide_eq_true c18
    have c18b1 : decide (a0_1.size ≤ 65536) = true := decide_eq_true q75_
    clear c18
    by_cases c19 : a0_3 = 0
    ·rw [if_pos c19] at H
     have c19b0 : (a0_3 == 0) = true := beq_iff_eq.mpr c19
     have c19b1 : (a0_3 != 0) = false := bne_eq_false_iff_eq.mpr c19
     clear c19
     obtain rfl := Option.some.inj H
     go_enter Try.func44,Try.ntmps44
     go_wp2_with (first|((with_reducible refine gate_dst (N := 1) rfl ?_);(try (refine gate_guard (by rfl) ?_;dsimp only));refine box_event ?hg (N := 1) ?hd (cs := #[.bool false,.string a0_1,.int .i64 a0_2,.int .i64 a0_3]) (t := 72) ?hr ?_;(case hd=>rfl);(case hg=>rfl);(case hr=>first|(go_simp;done)|(go_simp;rfl)|(go_simp;simp [my_u8w];done));intro gb347 hg w20 hbox hb;have n0_ := Aside0.mk (below_step (bl_) hb);have n1_ := Aside0.mk (hbox);have n2_ := Aside0.mk ((by rw [hg];exact (below_size (bl_)) : w.heap.size ≤ gb347));have n3_ := Aside0.mk ((by rw [hg];exact (below_size (bl_)) : w.heap.size ≤ gb347));clear HB;have HB := n0_;have BK347 := n1_;have GW347 := n2_;have GE347 := n3_;clear n0_ n1_ n2_ n3_;clear hb hbox hg;have hcz21_0 : w20.cell? ⟨gb347,0,none⟩ = some (.bool false) := (blk_cell BK347.out 0).trans rfl;have hcz21_1 : w20.cell? ⟨gb347,1,none⟩ = some (.string a0_1) := (blk_cell BK347.out 1).trans rfl;have hcz21_2 : w20.cell? ⟨gb347,2,none⟩ = some (.int .i64 a0_2) := (blk_cell BK347.out 2).trans rfl;have hcz21_3 : w20.cell? ⟨gb347,3,none⟩ = some (.int .i64 a0_3) := (blk_cell BK347.out 3).trans rfl;have hfz21_0 := blk_frozen BK347.out 0;have hfz21_1 := blk_frozen BK347.out 1;have hfz21_2 := blk_frozen BK347.out 2;have hfz21_3 := blk_frozen BK347.out 3))
     go_ret
     exact ⟨q1_,q43_⟩
    ·rw [if_neg c19] at H
     have c19b0 : (a0_3 == 0) = false := beq_eq_false_iff_ne.mpr c19
     have c19b1 : (a0_3 != 0) = true := bne_iff_ne.mpr c19
     obtain rfl := Option.some.inj H
     go_enter Try.func44,Try.ntmps44
     go_wp2_with (first|((with_reducible refine gate_dst (N := 1) rfl ?_);(try (refine gate_guard (by rfl) ?_;dsimp only));refine box_event ?hg (N := 1) ?hd (cs := #[.bool false,.string a0_1,.int .i64 a0_2,.int .i64 a0_3]) (t := 72) ?hr ?_;(case hd=>rfl);(case hg=>rfl);(case hr=>first|(go_simp;done)|(go_simp;rfl)|(go_simp;simp [my_u8w];done));intro gb347 hg w22 hbox hb;have n0_ := Aside0.mk (below_step (bl_) hb);have n1_ := Aside0.mk (hbox);have n2_ := Aside0.mk ((by rw [hg];exact (below_size (bl_)) : w.heap.size ≤ gb347));have n3_ := Aside0.mk ((by rw [hg];exact (below_size (bl_)) : w.heap.size ≤ gb347));clear HB;have HB := n0_;have BK347 := n1_;have GW347 := n2_;have GE347 := n3_;clear n0_ n1_ n2_ n3_;clear hb hbox hg;have hcz23_0 : w22.cell? ⟨gb347,0,none⟩ = some (.bool false) := (blk_cell BK347.out 0).trans rfl;have hcz23_1 : w22.cell? ⟨gb347,1,none⟩ = some (.string a0_1) := (blk_cell BK347.out 1).trans rfl;have hcz23_2 : w22.cell? ⟨gb347,2,none⟩ = some (.int .i64 a0_2) := (blk_cell BK347.out 2).trans rfl;have hcz23_3 : w22.cell? ⟨gb347,3,none⟩ = some (.int .i64 a0_3) := (blk_cell BK347.out 3).trans rfl;have hfz23_0 := blk_frozen BK347.out 0;have hfz23_1 := blk_frozen BK347.out 1;have hfz23_2 := blk_frozen BK347.out 2;have hfz23_3 := blk_frozen BK347.out 3))
     go_ret
     exact ⟨q1_,q43_⟩
   ·rw [if_neg c18] at H
    have c18b0 : decide ((a0_1.size : Int) ≤ 65536) = false := decide_eq_false c18
    have c18b1 : decide (a0_1.size ≤ 65536) = false := decide_eq_false q75_
    clear c18
    obtain rfl := Option.some.inj H
    go_enter Try.func44,Try.ntmps44
    go_wp2_with (first|((with_reducible refine gate_dst (N := 1) rfl ?_);(try (refine gate_guard (by rfl) ?_;dsimp only));refine box_event ?hg (N := 1) ?hd (cs := #[.bool false,.string a0_1,.int .i64 a0_2,.int .i64 a0_3]) (t := 72) ?hr ?_;(case hd=>rfl);(case hg=>rfl);(case hr=>first|(go_simp;done)|(go_simp;rfl)|(go_simp;simp [my_u8w];done));intro gb347 hg w24 hbox hb;have n0_ := Aside0.mk (below_step (bl_) hb);have n1_ := Aside0.mk (hbox);have n2_ := Aside0.mk ((by rw [hg];exact (below_size (bl_)) : w.heap.size ≤ gb347));have n3_ := Aside0.mk ((by rw [hg];exact (below_size (bl_)) : w.heap.size ≤ gb347));clear HB;have HB := n0_;have BK347 := n1_;have GW347 := n2_;have GE347 := n3_;clear n0_ n1_ n2_ n3_;clear hb hbox hg;have hcz25_0 : w24.cell? ⟨gb347,0,none⟩ = some (.bool false) := (blk_cell BK347.out 0).trans rfl;have hcz25_1 : w24.cell? ⟨gb347,1,none⟩ = some (.string a0_1) := (blk_cell BK347.out 1).trans rfl;have hcz25_2 : w24.cell? ⟨gb347,2,none⟩ = some (.int .i64 a0_2) := (blk_cell BK347.out 2).trans rfl;have hcz25_3 : w24.cell? ⟨gb347,3,none⟩ = some (.int .i64 a0_3) := (blk_cell BK347.out 3).trans rfl;have hfz25_0 := blk_frozen BK347.out 0;have hfz25_1 := blk_frozen BK347.out 1;have hfz25_2 := blk_frozen BK347.out 2;have hfz25_3 := blk_frozen BK347.out 3))
    go_ret
    exact ⟨q1_,q43_⟩
  ·rw [if_neg c17] at H
   have c17b0 : decide (1 ≤ (a0_1.size : Int)) = false := decide_eq_false c17
   have c17b1 : decide (1 ≤ a0_1.size) = false := decide_eq_false q75_
   clear c17
   obtain rfl := Option.some.inj H
   go_enter Try.func44,Try.ntmps44
   go_wp2_with (first|((with_reducible refine gate_dst (N := 1) rfl ?_);(try (refine gate_guard (by rfl) ?_;dsimp only));refine box_event ?hg (N := 1) ?hd (cs := #[.bool false,.string a0_1,.int .i64 a0_2,.int .i64 a0_3]) (t := 72) ?hr ?_;(case hd=>rfl);(case hg=>rfl);(case hr=>first|(go_simp;done)|(go_simp;rfl)|(go_simp;simp [my_u8w];done));intro gb347 hg w26 hbox hb;have n0_ := Aside0.mk (below_step (bl_) hb);have n1_ := Aside0.mk (hbox);have n2_ := Aside0.mk ((by rw [hg];exact (below_size (bl_)) : w.heap.size ≤ gb347));have n3_ := Aside0.mk ((by rw [hg];exact (below_size (bl_)) : w.heap.size ≤ gb347));clear HB;have HB := n0_;have BK347 := n1_;have GW347 := n2_;have GE347 := n3_;clear n0_ n1_ n2_ n3_;clear hb hbox hg;have hcz27_0 : w26.cell? ⟨gb347,0,none⟩ = some (.bool false) := (blk_cell BK347.out 0).trans rfl;have hcz27_1 : w26.cell? ⟨gb347,1,none⟩ = some (.string a0_1) := (blk_cell BK347.out 1).trans rfl;have hcz27_2 : w26.cell? ⟨gb347,2,none⟩ = some (.int .i64 a0_2) := (blk_cell BK347.out 2).trans rfl;have hcz27_3 : w26.cell? ⟨gb347,3,none⟩ = some (.int .i64 a0_3) := (blk_cell BK347.out 3).trans rfl;have hfz27_0 := blk_frozen BK347.out 0;have hfz27_1 := blk_frozen BK347.out 1;have hfz27_2 := blk_frozen BK347.out 2;have hfz27_3 := blk_frozen BK347.out 3))
   go_ret
   exact ⟨q1_,q43_⟩

end Go.Proofs.Ythcjcmgdblhhfaa.PV

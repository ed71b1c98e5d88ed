/- The machine side of these statements: what each Go function computes as a plain function, and that its call computes just that. Written by a program of mine (wip/drive.py). No conditions. -/
import Derived.Test.YthcjcmgdblhhfaaPVx0
import Derived.Test.YthcjcmgdblhhfaaPVx2
namespace Go.Proofs.Ythcjcmgdblhhfaa.PV
open Go.RowKit Go.Proofs.YthcjcmgdblhhfaaW.PrintWords Go.Proofs.YthcjcmgdblhhfaaW.PrintLast Go.Proofs.YthcjcmgdblhhfaaW.PrintMore
attribute [local go_sem] max2_int min2_int max_two min_two max_three min_three max_four min_four   -- for this text's walks alone
set_option linter.unusedVariables false
set_option linter.unusedSimpArgs false

/-! ### bits_Reader_Err: function 37 -/
def bits_Reader_Err.f (s0_0 : ByteArray) (s0_1 : Int) (s0_2 : Int) : Option (Int × ByteArray × Int × Int) := some (s0_2, s0_0, s0_1, s0_2)
set_option maxHeartbeats 8000000 in
set_option maxRecDepth 100000 in
theorem bits_Reader_Err.calls (g : Nat) (s0_0 : ByteArray) (s0_1 : Int) (s0_2 : Int) (r1 : Int) (r2 : ByteArray) (r3 : Int) (r4 : Int) (w0 w : World) (hI : IsS81 w0 w g s0_0 s0_1 s0_2) (hB : Below w0.heap.size w0 w) (h : bits_Reader_Err.f s0_0 s0_1 s0_2 = some (r1, r2, r3, r4)) :
  Calls Try.prog 37 #[.pointer (some ⟨g,0,none⟩)] w fun e w'=>e = .returned (.int .i64 r1) ∧ IsS81 w0 w' g r2 r3 r4 ∧ Below w0.heap.size w0 w' ∧ KeepBut w w' g none := by
 have hnil57neq : ∀ (a_ : Addr) (W_ : World),(binOp .neq 57 (.pointer (some a_)) (.pointer none)).run Try.prog W_ = .ok (.bool true) W_ := fun a_ W_=>by first|rfl|(simp [binOp,Op.equal,Op.maxDepth,Op.equalIn,run_underlying Try.underlying57];done)
 have hnil57eql : ∀ (a_ : Addr) (W_ : World),(binOp .eql 57 (.pointer (some a_)) (.pointer none)).run Try.prog W_ = .ok (.bool false) W_ := fun a_ W_=>by first|rfl|(simp [binOp,Op.equal,Op.maxDepth,Op.equalIn,run_underlying Try.underlying57];done)
 have HI0 := Aside0.mk hI
 have HK := Aside0.mk (KeepBut.refl w g none)
 have HL := Aside0.mk hB.size
 clear hI
 have HW0 := Aside0.mk hB.size
 have HB := Aside0.mk hB
 clear hB
 have H : (some (s0_2,s0_0,s0_1,s0_2)) = some (r1,r2,r3,r4) := h
 clear h
 simp only [Option.some.injEq,Prod.mk.injEq] at H
 obtain ⟨rfl,rfl,rfl,rfl⟩ := H
 obtain ⟨HGz2,hgz2⟩ := HI0.out
 have hcz2_0 := cellS81_0 HGz2
 have hcz2_1 := cellS81_1 HGz2
 have hcz2_2 := cellS81_2 HGz2
 have hfz2_0 := blk_frozen HGz2 0
 have hfz2_1 := blk_frozen HGz2 1
 have hfz2_2 := blk_frozen HGz2 2
 clear HGz2 hgz2
 go_enter Try.func37,Try.ntmps37
 go_wp2
 go_ret
 exact ⟨q1_,q11_,q13_,q2_⟩

/-! ### snappy_Part_may: function 55 -/
def snappy_Part_may.f (a0_0 : Bool) (a0_1 : ByteArray) (a0_2 : Int) (a0_3 : Int) : Option (Bool) := if a0_0 = true then (if a0_1.toList = ([] : List UInt8) then (if a0_3 ≥ 1 then (if a0_3 ≤ 64 then (if a0_2 ≥ 1 then (some (decide (a0_2 < 4294967296))) else (some false)) else (some false)) else (some false)) else (some false)) else (if a0_1.toList = ([] : List UInt8) then (some false) else (if (a0_1.size : Int) ≤ 65536 then (if a0_2 = 0 then (some (a0_3 == 0)) else (some false)) else (some false)))
set_option maxHeartbeats 8000000 in
set_option maxRecDepth 100000 in
theorem snappy_Part_may.calls (a0_0 : Bool) (a0_1 : ByteArray) (a0_2 : Int) (a0_3 : Int) (r : Bool) (w : World) (h : snappy_Part_may.f a0_0 a0_1 a0_2 a0_3 = some r) :
  Calls Try.prog 55 #[.agg #[.bool a0_0,.string a0_1,.int .i64 a0_2,.int .i64 a0_3]] w fun e w'=>e = .returned (.bool r) ∧ Below w.heap.size w w' := by
 have hu35 := Try.underlying35
 have HB := Aside0.mk (Below.refl w.heap.size w)
 have H : (if a0_0 = true then (if a0_1.toList = ([] : List UInt8) then (if a0_3 ≥ 1 then (if a0_3 ≤ 64 then (if a0_2 ≥ 1 then (some (decide (a0_2 < 4294967296))) else (some false)) else (some false)) else (some false)) else (some false)) else (if a0_1.toList = ([] : List UInt8) then (some false) else (if (a0_1.size : Int) ≤ 65536 then (if a0_2 = 0 then (some (a0_3 == 0)) else (some false)) else (some false)))) = some r := h
 clear h
 by_cases c2 : a0_0 = true
 ·subst c2
  have H1 : (if a0_1.toList = ([] : List UInt8) then (if a0_3 ≥ 1 then (if a0_3 ≤ 64 then (if a0_2 ≥ 1 then (some (decide (a0_2 < 4294967296))) else (some false)) else (some false)) else (some false)) else (some false)) = some r := by rw [if_pos rfl] at H;exact H
  clear H
  have H := H1
  clear H1
  by_cases c3 : a0_1.toList = ([] : List UInt8)
  ·rw [if_pos c3] at H
   have c3b0 : (a0_1.toList == ([] : List UInt8)) = true := beq_iff_eq.mpr c3
   have c3b1 : (a0_1.toList != ([] : List UInt8)) = false := bne_eq_false_iff_eq.mpr c3
   clear c3
   by_cases c4 : a0_3 ≥ 1
   ·rw [if_pos c4] at H
    have c4b0 : decide (1 ≤ a0_3) = true := decide_eq_true c4
    clear c4
    by_cases c5 : a0_3 ≤ 64
    ·rw [if_pos c5] at H
     have c5b0 : decide (a0_3 ≤ 64) = true := decide_eq_true c5
     clear c5
     by_cases c6 : a0_2 ≥ 1
     ·rw [if_pos c6] at H
      have c6b0 : decide (1 ≤ a0_2) = true := decide_eq_true c6
      clear c6
      obtain rfl := Option.some.inj H
      go_enter Try.func55,Try.ntmps55
      go_wp2_with (first|((with_reducible refine gate_dst (N := 1) rfl ?_);(try (refine gate_guard (by rfl) ?_;dsimp only));refine box_event ?hg (N := 1) ?hd (cs := #[.bool true,.string a0_1,.int .i64 a0_2,.int .i64 a0_3]) (t := 35) ?hr ?_;(case hd=>rfl);(case hg=>rfl);(case hr=>first|(go_simp;done)|(go_simp;rfl)|(go_simp;simp [my_u8w];done));intro gb165 hg w7 hbox hb;have n0_ := Aside0.mk (below_step (bl_) hb);have n1_ := Aside0.mk (hbox);have n2_ := Aside0.mk ((by rw [hg];exact (below_size (bl_)) : w.heap.size ≤ gb165));have n3_ := Aside0.mk ((by rw [hg];exact (below_size (bl_)) : w.heap.size ≤ gb165));clear HB;have HB := n0_;have BK165 := n1_;have GW165 := n2_;have GE165 := n3_;clear n0_ n1_ n2_ n3_;clear hb hbox hg;have hcz8_0 : w7.cell? ⟨gb165,0,none⟩ = some (.bool true) := (blk_cell BK165.out 0).trans rfl;have hcz8_1 : w7.cell? ⟨gb165,1,none⟩ = some (.string a0_1) := (blk_cell BK165.out 1).trans rfl;have hcz8_2 : w7.cell? ⟨gb165,2,none⟩ = some (.int .i64 a0_2) := (blk_cell BK165.out 2).trans rfl;have hcz8_3 : w7.cell? ⟨gb165,3,none⟩ = some (.int .i64 a0_3) := (blk_cell BK165.out 3).trans rfl;have hfz8_0 := blk_frozen BK165.out 0;have hfz8_1 := blk_frozen BK165.out 1;have hfz8_2 := blk_frozen BK165.out 2;have hfz8_3 := blk_frozen BK165.out 3))
      go_ret
      exact ⟨q1_,q45_⟩
     ·rw [if_neg c6] at H
      have c6b0 : decide (1 ≤ a0_2) = false := decide_eq_false c6
      clear c6
      obtain rfl := Option.some.inj H
      go_enter Try.func55,Try.ntmps55
      go_wp2_with (first|((with_reducible refine gate_dst (N := 1) rfl ?_);(try (refine gate_guard (by rfl) ?_;dsimp only));refine box_event ?hg (N := 1) ?hd (cs := #[.bool true,.string a0_1,.int .i64 a0_2,.int .i64 a0_3]) (t := 35) ?hr ?_;(case hd=>rfl);(case hg=>rfl);(case hr=>first|(go_simp;done)|(go_simp;rfl)|(go_simp;simp [my_u8w];done));intro gb165 hg w9 hbox hb;have n0_ := Aside0.mk (below_step (bl_) hb);have n1_ := Aside0.mk (hbox);have n2_ := Aside0.mk ((by rw [hg];exact (below_size (bl_)) : w.heap.size ≤ gb165));have n3_ := Aside0.mk ((by rw [hg];exact (below_size (bl_)) : w.heap.size ≤ gb165));clear HB;have HB := n0_;have BK165 := n1_;have GW165 := n2_;have GE165 := n3_;clear n0_ n1_ n2_ n3_;clear hb hbox hg;have hcz10_0 : w9.cell? ⟨gb165,0,none⟩ = some (.bool true) := (blk_cell BK165.out 0).trans rfl;have hcz10_1 : w9.cell? ⟨gb165,1,none⟩ = some (.string a0_1) := (blk_cell BK165.out 1).trans rfl;have hcz10_2 : w9.cell? ⟨gb165,2,none⟩ = some (.int .i64 a0_2) := (blk_cell BK165.out 2).trans rfl;have hcz10_3 : w9.cell? ⟨gb165,3,none⟩ = some (.int .i64 a0_3) := (blk_cell BK165.out 3).trans rfl;have hfz10_0 := blk_frozen BK165.out 0;have hfz10_1 := blk_frozen BK165.out 1;have hfz10_2 := blk_frozen BK165.out 2;have hfz10_3 := blk_frozen BK165.out 3))
      go_ret
      exact ⟨q1_,q45_⟩
    ·rw [if_neg c5] at H
     have c5b0 : decide (a0_3 ≤ 64) = false := decide_eq_false c5
     clear c5
     obtain rfl := Option.some.inj H
     go_enter Try.func55,Try.ntmps55
     go_wp2_with (first|((with_reducible refine gate_dst (N := 1) rfl ?_);(try (refine gate_guard (by rfl) ?_;dsimp only));refine box_event ?hg (N := 1) ?hd (cs := #[.bool true,.string a0_1,.int .i64 a0_2,.int .i64 a0_3]) (t := 35) ?hr ?_;(case hd=>rfl);(case hg=>rfl);(case hr=>first|(go_simp;done)|(go_simp;rfl)|(go_simp;simp [my_u8w];done));intro gb165 hg w11 hbox hb;have n0_ := Aside0.mk (below_step (bl_) hb);have n1_ := Aside0.mk (hbox);have n2_ := Aside0.mk ((by rw [hg];exact (below_size (bl_)) : w.heap.size ≤ gb165));have n3_ := Aside0.mk ((by rw [hg];exact (below_size (bl_)) : w.heap.size ≤ gb165));clear HB;have HB := n0_;have BK165 := n1_;have GW165 := n2_;have GE165 := n3_;clear n0_ n1_ n2_ n3_;clear hb hbox hg;have hcz12_0 : w11.cell? ⟨gb165,0,none⟩ = some (.bool true) := (blk_cell BK165.out 0).trans rfl;have hcz12_1 : w11.cell? ⟨gb165,1,none⟩ = some (.string a0_1) := (blk_cell BK165.out 1).trans rfl;have hcz12_2 : w11.cell? ⟨gb165,2,none⟩ = some (.int .i64 a0_2) := (blk_cell BK165.out 2).trans rfl;have hcz12_3 : w11.cell? ⟨gb165,3,none⟩ = some (.int .i64 a0_3) := (blk_cell BK165.out 3).trans rfl;have hfz12_0 := blk_frozen BK165.out 0;have hfz12_1 := blk_frozen BK165.out 1;have hfz12_2 := blk_frozen BK165.out 2;have hfz12_3 := blk_frozen BK165.out 3))
     go_ret
     exact ⟨q1_,q45_⟩
   ·rw [if_neg c4] at H
    have c4b0 : decide (1 ≤ a0_3) = false := decide_eq_false c4
    clear c4
    obtain rfl := Option.some.inj H
    go_enter Try.func55,Try.ntmps55
    go_wp2_with (first|((with_reducible refine gate_dst (N := 1) rfl ?_);(try (refine gate_guard (by rfl) ?_;dsimp only));refine box_event ?hg (N := 1) ?hd (cs := #[.bool true,.string a0_1,.int .i64 a0_2,.int .i64 a0_3]) (t := 35) ?hr ?_;(case hd=>rfl);(case hg=>rfl);(case hr=>first|(go_simp;done)|(go_simp;rfl)|(go_simp;simp [my_u8w];done));intro gb165 hg w13 hbox hb;have n0_ := Aside0.mk (below_step (bl_) hb);have n1_ := Aside0.mk (hbox);have n2_ := Aside0.mk ((by rw [hg];exact (below_size (bl_)) : w.heap.size ≤ gb165));have n3_ := Aside0.mk ((by rw [hg];exact (below_size (bl_)) : w.heap.size ≤ gb165));clear HB;have HB := n0_;have BK165 := n1_;have GW165 := n2_;have GE165 := n3_;clear n0_ n1_ n2_ n3_;clear hb hbox hg;have hcz14_0 : w13.cell? ⟨gb165,0,none⟩ = some (.bool true) := (blk_cell BK165.out 0).trans rfl;have hcz14_1 : w13.cell? ⟨gb165,1,none⟩ = some (.string a0_1) := (blk_cell BK165.out 1).trans rfl;have hcz14_2 : w13.cell? ⟨gb165,2,none⟩ = some (.int .i64 a0_2) := (blk_cell BK165.out 2).trans rfl;have hcz14_3 : w13.cell? ⟨gb165,3,none⟩ = some (.int .i64 a0_3) := (blk_cell BK165.out 3).trans rfl;have hfz14_0 := blk_frozen BK165.out 0;have hfz14_1 := blk_frozen BK165.out 1;have hfz14_2 := blk_frozen BK165.out 2;have hfz14_3 := blk_frozen BK165.out 3))
    go_ret
    exact ⟨q1_,q45_⟩
  ·rw [if_neg c3] at H
   have c3b0 : (a0_1.toList == ([] : List UInt8)) = false := beq_eq_false_iff_ne.mpr c3
   have c3b1 : (a0_1.toList != ([] : List UInt8)) = true := bne_iff_ne.mpr c3
   obtain rfl := Option.some.inj H
   go_enter Try.func55,Try.ntmps55
   go_wp2_with (first|((with_reducible refine gate_dst (N := 1) rfl ?_);(try (refine gate_guard (by rfl) ?_;dsimp only));refine box_event ?hg (N := 1) ?hd (cs := #[.bool true,.string a0_1,.int .i64 a0_2,.int .i64 a0_3]) (t := 35) ?hr ?_;(case hd=>rfl);(case hg=>rfl);(case hr=>first|(go_simp;done)|(go_simp;rfl)|(go_simp;simp [my_u8w];done));intro gb165 hg w15 hbox hb;have n0_ := Aside0.mk (below_step (bl_) hb);have n1_ := Aside0.mk (hbox);have n2_ := Aside0.mk ((by rw [hg];exact (below_size (bl_)) : w.heap.size ≤ gb165));have n3_ := Aside0.mk ((by rw [hg];exact (below_size (bl_)) : w.heap.size ≤ gb165));clear HB;have HB := n0_;have BK165 := n1_;have GW165 := n2_;have GE165 := n3_;clear n0_ n1_ n2_ n3_;clear hb hbox hg;have hcz16_0 : w15.cell? ⟨gb165,0,none⟩ = some (.bool true) := (blk_cell BK165.out 0).trans rfl;have hcz16_1 : w15.cell? ⟨gb165,1,none⟩ = some (.string a0_1) := (blk_cell BK165.out 1).trans rfl;have hcz16_2 : w15.cell? ⟨gb165,2,none⟩ = some (.int .i64 a0_2) := (blk_cell BK165.out 2).trans rfl;have hcz16_3 : w15.cell? ⟨gb165,3,none⟩ = some (.int .i64 a0_3) := (blk_cell BK165.out 3).trans rfl;have hfz16_0 := blk_frozen BK165.out 0;have hfz16_1 := blk_frozen BK165.out 1;have hfz16_2 := blk_frozen BK165.out 2;have hfz16_3 := blk_frozen BK165.out 3))
   go_ret
   exact ⟨q1_,q45_⟩
 ·replace c2 := Bool.eq_false_iff.mpr c2
  subst c2
  have H1 : (if a0_1.toList = ([] : List UInt8) then (some false) else (if (a0_1.size : Int) ≤ 65536 then (if a0_2 = 0 then (some (a0_3 == 0)) else (some false)) else (some false))) = some r := by rw [if_neg (show ¬ (false = true) by decide)] at H;exact H
  clear H
  have H := H1
  clear H1
  by_cases c17 : a0_1.toList = ([] : List UInt8)
  ·rw [if_pos c17] at H
   have c17b0 : (a0_1.toList == ([] : List UInt8)) = true := beq_iff_eq.mpr c17
   have c17b1 : (a0_1.toList != ([] : List UInt8)) = false := bne_eq_false_iff_eq.mpr c17
   clear c17
   obtain rfl := Option.some.inj H
   go_enter Try.func55,Try.ntmps55
   go_wp2_with (first|((with_reducible refine gate_dst (N := 1) rfl ?_);(try (refine gate_guard (by rfl) ?_;dsimp only));refine box_event ?hg (N := 1) ?hd (cs := #[.bool false,.string a0_1,.int .i64 a0_2,.int .i64 a0_3]) (t := 35) ?hr ?_;(case hd=>rfl);(case hg=>rfl);(case hr=>first|(go_simp;done)|(go_simp;rfl)|(go_simp;simp [my_u8w];done));intro gb165 hg w18 hbox hb;have n0_ := Aside0.mk (below_step (bl_) hb);have n1_ := Aside0.mk (hbox);have n2_ := Aside0.mk ((by rw [hg];exact (below_size (bl_)) : w.heap.size ≤ gb165));have n3_ := Aside0.mk ((by rw [hg];exact (below_size (bl_)) : w.heap.size ≤ gb165));clear HB;have HB := n0_;have BK165 := n1_;have GW165 := n2_;have GE165 := n3_;clear n0_ n1_ n2_ n3_;clear hb hbox hg;have hcz19_0 : w18.cell? ⟨gb165,0,none⟩ = some (.bool false) := (blk_cell BK165.out 0).trans rfl;have hcz19_1 : w18.cell? ⟨gb165,1,none⟩ = some (.string a0_1) := (blk_cell BK165.out 1).trans rfl;have hcz19_2 : w18.cell? ⟨gb165,2,none⟩ = some (.int .i64 a0_2) := (blk_cell BK165.out 2).trans rfl;have hcz19_3 : w18.cell? ⟨gb165,3,none⟩ = some (.int .i64 a0_3) := (blk_cell BK165.out 3).trans rfl;have hfz19_0 := blk_frozen BK165.out 0;have hfz19_1 := blk_frozen BK165.out 1;have hfz19_2 := blk_frozen BK165.out 2;have hfz19_3 := blk_frozen BK165.out 3))
   go_ret
   exact ⟨q1_,q45_⟩
  ·rw [if_neg c17] at H
   have c17b0 : (a0_1.toList == ([] : List UInt8)) = false := beq_eq_false_iff_ne.mpr c17
   have c17b1 : (a0_1.toList != ([] : List UInt8)) = true := bne_iff_ne.mpr c17
   by_cases c20 : (a0_1.size : Int) ≤ 65536
   ·rw [if_pos c20] at H
    have c20b0 : decide ((a0_1.size : Int) ≤ 65536) = true := decide_eq_true c20
    have c20b1 : decide (a0_1.size ≤ 65536) = true := decide_eq_true q75_
    clear c20
    by_cases c21 : a0_2 = 0
    ·rw [if_pos c21] at H
     have c21b0 : (a0_2 == 0) = true := beq_iff_eq.mpr c21
     have c21b1 : (a0_2 != 0) = false := bne_eq_false_iff_eq.mpr c21
     clear c21
     obtain rfl := Option.some.inj H
     go_enter Try.func55,Try.ntmps55
     go_wp2_with (first|((with_reducible refine gate_dst (N := 1) rfl ?_);(try (refine gate_guard (by rfl) ?_;dsimp only));refine box_event ?hg (N := 1) ?hd (cs := #[.bool false,.string a0_1,.int .i64 a0_2,.int .i64 a0_3]) (t := 35) ?hr ?_;(case hd=>rfl);(case hg=>rfl);(case hr=>first|(go_simp;done)|(go_simp;rfl)|(go_simp;simp [my_u8w];done));intro gb165 hg w22 hbox hb;have n0_ := Aside0.mk (below_step (bl_) hb);have n1_ := Aside0.mk (hbox);have n2_ := Aside0.mk ((by rw [hg];exact (below_size (bl_)) : w.heap.size ≤ gb165));have n3_ := Aside0.mk ((by rw [hg];exact (below_size (bl_)) : w.heap.size ≤ gb165));clear HB;have HB := n0_;have BK165 := n1_;have GW165 := n2_;have GE165 := n3_;clear n0_ n1_ n2_ n3_;clear hb hbox hg;have hcz23_0 : w22.cell? ⟨gb165,0,none⟩ = some (.bool false) := (blk_cell BK165.out 0).trans rfl;have hcz23_1 : w22.cell? ⟨gb165,1,none⟩ = some (.string a0_1) := (blk_cell BK165.out 1).trans rfl;have hcz23_2 : w22.cell? ⟨gb165,2,none⟩ = some (.int .i64 a0_2) := (blk_cell BK165.out 2).trans rfl;have hcz23_3 : w22.cell? ⟨gb165,3,none⟩ = some (.int .i64 a0_3) := (blk_cell BK165.out 3).trans rfl;have hfz23_0 := blk_frozen BK165.out 0;have hfz23_1 := blk_frozen BK165.out 1;have hfz23_2 := blk_frozen BK165.out 2;have hfz23_3 := blk_frozen BK165.out 3))
     go_ret
     exact ⟨q1_,q45_⟩
    ·rw [if_neg c21] at H
     have c21b0 : (a0_2 == 0) = false := beq_eq_false_iff_ne.mpr c21
     have c21b1 : (a0_2 != 0) = true := bne_iff_ne.mpr c21
     obtain rfl := Option.some.inj H
     go_enter Try.func55,Try.ntmps55
     go_wp2_with (first|((with_reducible refine gate_dst (N := 1) rfl ?_);(try (refine gate_guard (by rfl) ?_;dsimp only));refine box_event ?hg (N := 1) ?hd (cs := #[.bool false,.string a0_1,.int .i64 a0_2,.int .i64 a0_3]) (t := 35) ?hr ?_;(case hd=>rfl);(case hg=>rfl);(case hr=>first|(go_simp;done)|(go_simp;rfl)|(go_simp;simp [my_u8w];done));intro gb165 hg w24 hbox hb;have n0_ := Aside0.mk (below_step (bl_) hb);have n1_ := Aside0.mk (hbox);have n2_ := Aside0.mk ((by rw [hg];exact (below_size (bl_)) : w.heap.size ≤ gb165));have n3_ := Aside0.mk ((by rw [hg];exact (below_size (bl_)) : w.heap.size ≤ gb165));clear HB;have HB := n0_;have BK165 := n1_;have GW165 := n2_;have GE165 := n3_;clear n0_ n1_ n2_ n3_;clear hb hbox hg;have hcz25_0 : w24.cell? ⟨gb165,0,none⟩ = some (.bool false) := (blk_cell BK165.out 0).trans rfl;have hcz25_1 : w24.cell? ⟨gb165,1,none⟩ = some (.string a0_1) := (blk_cell BK165.out 1).trans rfl;have hcz25_2 : w24.cell? ⟨gb165,2,none⟩ = some (.int .i64 a0_2) := (blk_cell BK165.out 2).trans rfl;have hcz25_3 : w24.cell? ⟨gb165,3,none⟩ = some (.int .i64 a0_3) := (blk_cell BK165.out 3).trans rfl;have hfz25_0 := blk_frozen BK165.out 0;have hfz25_1 := blk_frozen BK165.out 1;have hfz25_2 := blk_frozen BK165.out 2;have hfz25_3 := blk_frozen BK165.out 3))
     go_ret
     exact ⟨q1_,q45_⟩
   ·rw [if_neg c20] at H
    have c20b0 : decide ((a0_1.size : Int) ≤ 65536) = false := decide_eq_false c20
    have c20b1 : decide (a0_1.size ≤ 65536) = false := decide_eq_false q75_
    clear c20
    obtain rfl := Option.some.inj H
    go_enter Try.func55,Try.ntmps55
    go_wp2_with (first|((with_reducible refine gate_dst (N := 1) rfl ?_);(try (refine gate_guard (by rfl) ?_;dsimp only));refine box_event ?hg (N := 1) ?hd (cs := #[.bool false,.string a0_1,.int .i64 a0_2,.int .i64 a0_3]) (t := 35) ?hr ?_;(case hd=>rfl);(case hg=>rfl);(case hr=>first|(go_simp;done)|(go_simp;rfl)|(go_simp;simp [my_u8w];done));intro gb165 hg w26 hbox hb;have n0_ := Aside0.mk (below_step (bl_) hb);have n1_ := Aside0.mk (hbox);have n2_ := Aside0.mk ((by rw [hg];exact (below_size (bl_)) : w.heap.size ≤ gb165));have n3_ := Aside0.mk ((by rw [hg];exact (below_size (bl_)) : w.heap.size ≤ gb165));clear HB;have HB := n0_;have BK165 := n1_;have GW165 := n2_;have GE165 := n3_;clear n0_ n1_ n2_ n3_;clear hb hbox hg;have hcz27_0 : w26.cell? ⟨gb165,0,none⟩ = some (.bool false) := (blk_cell BK165.out 0).trans rfl;have hcz27_1 : w26.cell? ⟨gb165,1,none⟩ = some (.string a0_1) := (blk_cell BK165.out 1).trans rfl;have hcz27_2 : w26.cell? ⟨gb165,2,none⟩ = some (.int .i64 a0_2) := (blk_cell BK165.out 2).trans rfl;have hcz27_3 : w26.cell? ⟨gb165,3,none⟩ = some (.int .i64 a0_3) := (blk_cell BK165.out 3).trans rfl;have hfz27_0 := blk_frozen BK165.out 0;have hfz27_1 := blk_frozen BK165.out 1;have hfz27_2 := blk_frozen BK165.out 2;have hfz27_3 := blk_frozen BK165.out 3))
    go_ret
    exact ⟨q1_,q45_⟩

end Go.Proofs.Ythcjcmgdblhhfaa.PV

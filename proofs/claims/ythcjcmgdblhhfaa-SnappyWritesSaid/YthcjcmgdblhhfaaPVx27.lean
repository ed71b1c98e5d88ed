/- The machine side of these statements: what each Go function computes as a plain function, and that its call computes just that. Written by a program of mine (wip/drive.py). No conditions. -/
import Derived.Test.YthcjcmgdblhhfaaPVx0
import Derived.Test.YthcjcmgdblhhfaaPVx23
import Derived.Test.YthcjcmgdblhhfaaPVx24
import Derived.Test.YthcjcmgdblhhfaaPVx26
namespace Go.Proofs.Ythcjcmgdblhhfaa.PV
open Go.RowKit Go.Proofs.YthcjcmgdblhhfaaW.PrintWords Go.Proofs.YthcjcmgdblhhfaaW.PrintLast Go.Proofs.YthcjcmgdblhhfaaW.PrintMore
attribute [local go_sem] max2_int min2_int max_two min_two max_three min_three max_four min_four   -- for this text's walks alone
set_option linter.unusedVariables false
set_option linter.unusedSimpArgs false

/-! ### batonref03_Write: function 22 -/
def batonref03_Write.l0 : Nat → List (S72) → ByteArray → Int → Option (ByteArray × Int)
 | 0,_,_,_=>none
 | k + 1,x0,x6,x7=>if x7 < (x0.length : Int) then (if 0 ≤ x7 then ((batonref03_one.f k ((rd_T72 x0 x7).f0) ((rd_T72 x0 x7).f1) ((rd_T72 x0 x7).f2) ((rd_T72 x0 x7).f3)).bind fun t377=>(if x6.size + t377.size ≤ 9223372036854775807 then (batonref03_Write.l0 k x0 (x6 ++ t377) (wrap64 (x7 + 1))) else (none))) else (none)) else (some (x6,0))
def batonref03_Write.f (k : Nat) (l0 : List (S72)) : Option (ByteArray × Int) := (batonref03_Expand.f k l0 65536).bind fun bt373 => (if bt373.2 = 0 then ((batonref01_Varint.f k (IntKind.u64.wrap ((bt373.1.size : Int)))).bind fun t375 => (batonref03_Write.l0 k l0 t375 0)) else (some ((⟨#[]⟩ : ByteArray), bt373.2)))
theorem batonref03_Write.mono_l : ∀ k, (∀ y0 y1 y2, LeO (batonref03_Write.l0 k y0 y1 y2) (batonref03_Write.l0 (k + 1) y0 y1 y2))
 | 0=>fun _ _ _ r h=>by simp [batonref03_Write.l0] at h
 | k + 1=>by
  have ih0 := batonref03_Write.mono_l k
  ·intro y0 y1 y2
   unfold batonref03_Write.l0
   repeat' first
   | (with_reducible exact ih0 _ _ _)
   | (with_reducible exact batonref01_Varint.mono _ _)
   | (with_reducible exact batonref03_Expand.mono _ _ _)
   | (with_reducible exact batonref03_one.mono _ _ _ _ _)
   | (with_reducible exact LeO.refl _)
   | (with_reducible exact LeO.none _)
   | (with_reducible refine LeO.ite ?_ ?_)
   | (with_reducible refine LeO.bind ?_ (fun _=>?_))
   | exact ih0 _ _ _
   | exact batonref01_Varint.mono _ _
   | exact batonref03_Expand.mono _ _ _
   | exact batonref03_one.mono _ _ _ _ _
   | exact LeO.none _
   | refine LeO.ite ?_ ?_
   | refine LeO.bind ?_ (fun _=>?_)
theorem batonref03_Write.mono : ∀ a0 k, LeO (batonref03_Write.f k a0) (batonref03_Write.f (k + 1) a0) := by
 intro a0 k
 have ih0 := batonref03_Write.mono_l k
 unfold batonref03_Write.f
 repeat' first
   | (with_reducible exact ih0 _ _ _)
   | (with_reducible exact batonref01_Varint.mono _ _)
   | (with_reducible exact batonref03_Expand.mono _ _ _)
   | (with_reducible exact batonref03_one.mono _ _ _ _ _)
   | (with_reducible exact LeO.refl _)
   | (with_reducible exact LeO.none _)
   | (with_reducible refine LeO.ite ?_ ?_)
   | (with_reducible refine LeO.bind ?_ (fun _=>?_))
   | exact ih0 _ _ _
   | exact batonref01_Varint.mono _ _
   | exact batonref03_Expand.mono _ _ _
   | exact batonref03_one.mono _ _ _ _ _
   | exact LeO.none _
   | refine LeO.ite ?_ ?_
   | refine LeO.bind ?_ (fun _=>?_)
set_option maxHeartbeats 8000000 in
set_option maxRecDepth 100000 in
theorem batonref03_Write.calls (k : Nat) (A0 : Option Addr) (c0 : Nat) (l0 : List (S72)) (r1 : ByteArray) (r2 : Int) (w : World) (hr0 : Kd.C k72 w A0 l0.length l0) (hc0 : l0.length ≤ c0) (h : batonref03_Write.f k l0 = some (r1, r2)) :
  Calls Try.prog 22 #[.slice A0 l0.length c0] w fun e w'=>e = .returned (.tuple #[.string r1,.int .i64 r2]) ∧ Below w.heap.size w w' := by
 have hu72 := Try.underlying72
 have HR0 := Aside0.mk hr0
 have HC0 := Aside0.mk hc0
 clear hr0 hc0
 have HB := Aside0.mk (Below.refl w.heap.size w)
 have H : ((batonref03_Expand.f k l0 65536).bind fun bt373=>(if bt373.2 = 0 then ((batonref01_Varint.f k (IntKind.u64.wrap ((bt373.1.size : Int)))).bind fun t375=>(batonref03_Write.l0 k l0 t375 0)) else (some ((⟨#[]⟩ : ByteArray),bt373.2)))) = some (r1,r2) := h
 clear h
 replace H := Option.bind_eq_some_iff.mp H
 obtain ⟨⟨t373,t374⟩,A20,H⟩ := H
 replace H : (if t374 = 0 then ((batonref01_Varint.f k (IntKind.u64.wrap ((t373.size : Int)))).bind fun t375=>(batonref03_Write.l0 k l0 t375 0)) else (some ((⟨#[]⟩ : ByteArray),t374))) = some (r1,r2) := H
 have A2 := Aside0.mk A20
 clear A20
 by_cases c3 : t374 = 0
 ·rw [if_pos c3] at H
  have c3b0 : (t374 == 0) = true := beq_iff_eq.mpr c3
  have c3b1 : (t374 != 0) = false := bne_eq_false_iff_eq.mpr c3
  clear c3
  replace H := Option.bind_eq_some_iff.mp H
  obtain ⟨t375,A40,H⟩ := H
  replace H : (batonref03_Write.l0 k l0 t375 0) = some (r1,r2) := H
  have A4 := Aside0.mk A40
  clear A40
  have H' := Aside0.mk H
  clear H
  go_enter Try.func22,Try.ntmps22
  go_wp2_with (first|((with_reducible refine gate_callee (f := 21) rfl ?_);refine goesL_ (some 10) rfl rfl Try.func21 q9_ rfl #[.slice A0 l0.length c0,.int .i64 65536] rfl q0_ ?_;(with_reducible refine (batonref03_Expand.calls k _ _ l0 65536 t373 t374 _ ?side1 ?side2 A2.out).mono ?_);(case side1=>repeat (first|exact HR0.out|(with_reducible refine Kd.C_alloc ?_ _)|(with_reducible refine Kd.C_drewN ?_ _)|(with_reducible refine Kd.C_drew ?_)));(case side2=>exact HC0.out);rintro e w5 ⟨rfl,hb⟩;refine ⟨_,rfl,?_⟩;have n0_ := Aside0.mk (below_step (bl_) hb);clear HB;have HB := n0_;clear n0_;(try clear hb);(try clear hb2);(try clear hk);(try clear hi))|((with_reducible refine gate_callee (f := 45) rfl ?_);refine goesL_ (some 19) rfl rfl Try.func45 q9_ rfl #[.int .u64 (IntKind.u64.wrap ((t373.size : Int)))] rfl q0_ ?_;(with_reducible refine (batonref01_Varint.calls k (IntKind.u64.wrap ((t373.size : Int))) t375 _ A4.out).mono ?_);rintro e w6 ⟨rfl,hb⟩;refine ⟨_,rfl,?_⟩;have n0_ := Aside0.mk (below_step (bl_) hb);clear HB;have HB := n0_;clear n0_;(try clear hb);(try clear hb2);(try clear hk);(try clear hi)))
  go_loopg [6,7] k (fun kq v6 v7 w'=>∃ (x6_1 : ByteArray) (x7_1 : Int),v6 = .string x6_1 ∧ v7 = .int .i64 x7_1 ∧ Aside0 (batonref03_Write.l0 kq l0 x6_1 x7_1 = some (r1,r2)) ∧ Aside0 (kq ≤ k) ∧ Aside0 (Below w.heap.size w w'))
  case atStart=>exact ⟨(t375),(0),q4_,q4_,H',⟨Nat.le_refl _⟩,⟨bl_⟩⟩
  case round =>
   clear H'
   try clear c2
   try clear p2
   try clear c3
   try clear c3b0
   try clear c3b1
   try clear c4
   obtain ⟨x6_1,x7_1,rfl,rfl,HA,HK1,HB⟩ := hrel
   cases gk with
   | zero=>exact absurd HA.out (by simp [batonref03_Write.l0])
   | succ k1 =>
    have H := HA.out
    clear HA
    simp only [batonref03_Write.l0] at H
    by_cases c7 : x7_1 < (l0.length : Int)
    ·rw [if_pos c7] at H
     have c7b0 : decide (x7_1 < (l0.length : Int)) = true := decide_eq_true c7
     clear c7
     by_cases c8 : 0 ≤ x7_1
     ·rw [if_pos c8] at H
      have c8b0 : decide (0 ≤ x7_1) = true := decide_eq_true c8
      clear c8
      replace H := Option.bind_eq_some_iff.mp H
      obtain ⟨t377,A90,H⟩ := H
      replace H : (if x6_1.size + t377.size ≤ 9223372036854775807 then (batonref03_Write.l0 k1 l0 (x6_1 ++ t377) (wrap64 (x7_1 + 1))) else (none)) = some (r1,r2) := H
      have A9 := Aside0.mk A90
      clear A90
      by_cases c10 : x6_1.size + t377.size ≤ 9223372036854775807
      ·rw [if_pos c10] at H
       have c10b0 := eq_true c10
       have c10b1 : decide (x6_1.size + t377.size ≤ 9223372036854775807) = true := decide_eq_true c10
       try have c10b2 : (9223372036854775807 < x6_1.size + t377.size) = False := eq_false (Nat.not_lt.2 c10)
       have H' := Aside0.mk H
       clear H
       have p376 : 0 ≤ (x7_1 : Int) := of_decide_eq_true q3_
       have q376 : x7_1 < (l0.length : Int) := of_decide_eq_true q3_
       obtain ⟨ad376,e376,hx376_0,hx376_1,hx376_2,hx376_3⟩ := at_T72 HR0.out x7_1 p376 q376
       cases e376
       replace hx376_0 := (HB.out.cell (World.block_lt_of_cell? w _ hx376_0)).trans hx376_0
       replace hx376_1 := (HB.out.cell (World.block_lt_of_cell? w _ hx376_1)).trans hx376_1
       replace hx376_2 := (HB.out.cell (World.block_lt_of_cell? w _ hx376_2)).trans hx376_2
       replace hx376_3 := (HB.out.cell (World.block_lt_of_cell? w _ hx376_3)).trans hx376_3
       replace p376 := eq_true p376
       replace q376 := eq_true q376
       go_wp2_with (first|((with_reducible refine gate_callee (f := 46) rfl ?_);refine goesL_ (some 31) rfl rfl Try.func46 q9_ rfl #[.agg #[.bool ((rd_T72 l0 x7_1).f0),.string ((rd_T72 l0 x7_1).f1),.int .i64 ((rd_T72 l0 x7_1).f2),.int .i64 ((rd_T72 l0 x7_1).f3)]] rfl q0_ ?_;(with_reducible refine (batonref03_one.calls k1 ((rd_T72 l0 x7_1).f0) ((rd_T72 l0 x7_1).f1) ((rd_T72 l0 x7_1).f2) ((rd_T72 l0 x7_1).f3) t377 _ A9.out).mono ?_);rintro e w11 ⟨rfl,hb⟩;refine ⟨_,rfl,?_⟩;have n0_ := Aside0.mk (below_step (bl_) hb);clear HB;have HB := n0_;clear n0_;(try clear hb);(try clear hb2);(try clear hk);(try clear hi)))
       go_roundg k1
       case measure=>have := HK1.out;omega
       case rel=>exact ⟨(x6_1 ++ t377),(wrap64 (x7_1 + 1)),q4_,q4_,H',⟨q85_⟩,⟨bl_⟩⟩
      ·rw [if_neg c10] at H
       exact absurd H (by simp)
     ·rw [if_neg c8] at H
      exact absurd H (by simp)
    ·rw [if_neg c7] at H
     have c7b0 : decide (x7_1 < (l0.length : Int)) = false := decide_eq_false c7
     clear c7
     simp only [Option.some.injEq,Prod.mk.injEq] at H
     obtain ⟨rfl,rfl⟩ := H
     go_wp2
     go_ret2
     exact ⟨q1_,bl_⟩
 ·rw [if_neg c3] at H
  have c3b0 : (t374 == 0) = false := beq_eq_false_iff_ne.mpr c3
  have c3b1 : (t374 != 0) = true := bne_iff_ne.mpr c3
  simp only [Option.some.injEq,Prod.mk.injEq] at H
  obtain ⟨rfl,rfl⟩ := H
  go_enter Try.func22,Try.ntmps22
  go_wp2_with (first|((with_reducible refine gate_callee (f := 21) rfl ?_);refine goesL_ (some 10) rfl rfl Try.func21 q9_ rfl #[.slice A0 l0.length c0,.int .i64 65536] rfl q0_ ?_;(with_reducible refine (batonref03_Expand.calls k _ _ l0 65536 t373 t374 _ ?side1 ?side2 A2.out).mono ?_);(case side1=>repeat (first|exact HR0.out|(with_reducible refine Kd.C_alloc ?_ _)|(with_reducible refine Kd.C_drewN ?_ _)|(with_reducible refine Kd.C_drew ?_)));(case side2=>exact HC0.out);rintro e w12 ⟨rfl,hb⟩;refine ⟨_,rfl,?_⟩;have n0_ := Aside0.mk (below_step (bl_) hb);clear HB;have HB := n0_;clear n0_;(try clear hb);(try clear hb2);(try clear hk);(try clear hi)))
  go_ret2
  exact ⟨q1_,bl_⟩

end Go.Proofs.Ythcjcmgdblhhfaa.PV

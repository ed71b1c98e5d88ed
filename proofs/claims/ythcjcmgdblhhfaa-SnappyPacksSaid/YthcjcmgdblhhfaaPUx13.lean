/- The machine side of these statements: what each Go function computes as a plain function, and that its call computes just that. Written by a program of mine (wip/drive.py). No conditions. -/
import Derived.Test.YthcjcmgdblhhfaaPUx0
import Derived.Test.YthcjcmgdblhhfaaPUx4
import Derived.Test.YthcjcmgdblhhfaaPUx5
import Derived.Test.YthcjcmgdblhhfaaPUx8
import Derived.Test.YthcjcmgdblhhfaaPUx9
import Derived.Test.YthcjcmgdblhhfaaPUx10
import Derived.Test.YthcjcmgdblhhfaaPUx12
namespace Go.Proofs.Ythcjcmgdblhhfaa.PU
open Go.RowKit Go.Proofs.YthcjcmgdblhhfaaW.PrintWords Go.Proofs.YthcjcmgdblhhfaaW.PrintLast Go.Proofs.YthcjcmgdblhhfaaW.PrintMore
attribute [local go_sem] max2_int min2_int max_two min_two max_three min_three max_four min_four   -- for this text's walks alone
set_option linter.unusedVariables false
set_option linter.unusedSimpArgs false

/-! ### batonref03_Write: function 22 -/
def batonref03_Write.l0 : Nat → List (S72) → ByteArray → Int → Option (ByteArray × Int)
 | 0,_,_,_=>none
 | k + 1,x0,x6,x7=>if x7 < (x0.length : Int) then (if 0 ≤ x7 then ((batonref03_one.f k ((rd_T72 x0 x7).f0) ((rd_T72 x0 x7).f1) ((rd_T72 x0 x7).f2) ((rd_T72 x0 x7).f3)).bind fun t338=>(if x6.size + t338.size ≤ 9223372036854775807 then (batonref03_Write.l0 k x0 (x6 ++ t338) (wrap64 (x7 + 1))) else (none))) else (none)) else (some (x6,0))
def batonref03_Write.f (k : Nat) (l0 : List (S72)) : Option (ByteArray × Int) := (batonref03_Expand.f k l0 65536).bind fun bt334 => (if bt334.2 = 0 then ((batonref01_Varint.f k (IntKind.u64.wrap ((bt334.1.size : Int)))).bind fun t336 => (batonref03_Write.l0 k l0 t336 0)) else (some ((⟨#[]⟩ : ByteArray), bt334.2)))
theorem batonref03_Write.mono_l : ∀ k, (∀ y0 y1 y2, LeO (batonref03_Write.l0 k y0 y1 y2) (batonref03_Write.l0 (k + 1) y0 y1 y2))
 | 0=>fun _ _ _ r h=>by simp [batonref03_Write.l0] at h
 | k + 1=>by
  have ih0 := batonref03_Write.mono_l k
  ·intro y0 y1 y2
   unfold batonref03_Write.l0
   repeat' first
   | (with_reducible exact ih0 _ _ _)
   | (with_reducible exact batonref01_Varint.mono _ _)
   | (with_reducible exact batonref03_Expand.mono _ _ _)
   | (with_reducible exact batonref03_one.mono _ _ _ _ _)
   | (with_reducible exact LeO.refl _)
   | (with_reducible exact LeO.none _)
   | (with_reducible refine LeO.ite ?_ ?_)
   | (with_reducible refine LeO.bind ?_ (fun _=>?_))
   | exact ih0 _ _ _
   | exact batonref01_Varint.mono _ _
   | exact batonref03_Expand.mono _ _ _
   | exact batonref03_one.mono _ _ _ _ _
   | exact LeO.none _
   | refine LeO.ite ?_ ?_
   | refine LeO.bind ?_ (fun _=>?_)
theorem batonref03_Write.mono : ∀ a0 k, LeO (batonref03_Write.f k a0) (batonref03_Write.f (k + 1) a0) := by
 intro a0 k
 have ih0 := batonref03_Write.mono_l k
 unfold batonref03_Write.f
 repeat' first
   | (with_reducible exact ih0 _ _ _)
   | (with_reducible exact batonref01_Varint.mono _ _)
   | (with_reducible exact batonref03_Expand.mono _ _ _)
   | (with_reducible exact batonref03_one.mono _ _ _ _ _)
   | (with_reducible exact LeO.refl _)
   | (with_reducible exact LeO.none _)
   | (with_reducible refine LeO.ite ?_ ?_)
   | (with_reducible refine LeO.bind ?_ (fun _=>?_))
   | exact ih0 _ _ _
   | exact batonref01_Varint.mono _ _
   | exact batonref03_Expand.mono _ _ _
   | exact batonref03_one.mono _ _ _ _ _
   | exact LeO.none _
   | refine LeO.ite ?_ ?_
   | refine LeO.bind ?_ (fun _=>?_)
set_option maxHeartbeats 8000000 in
set_option maxRecDepth 100000 in
theorem batonref03_Write.calls (k : Nat) (A0 : Option Addr) (c0 : Nat) (l0 : List (S72)) (r1 : ByteArray) (r2 : Int) (w : World) (hr0 : Kd.C k72 w A0 l0.length l0) (hc0 : l0.length ≤ c0) (h : batonref03_Write.f k l0 = some (r1, r2)) :
  Calls Try.prog 22 #[.slice A0 l0.length c0] w fun e w'=>e = .returned (.tuple #[.string r1,.int .i64 r2]) ∧ Below w.heap.size w w' := by
 have hu72 := Try.underlying72
 have HR0 := Aside0.mk hr0
 have HC0 := Aside0.mk hc0
 clear hr0 hc0
 have HB := Aside0.mk (Below.refl w.heap.size w)
 have H : ((batonref03_Expand.f k l0 65536).bind fun bt334=>(if bt334.2 = 0 then ((batonref01_Varint.f k (IntKind.u64.wrap ((bt334.1.size : Int)))).bind fun t336=>(batonref03_Write.l0 k l0 t336 0)) else (some ((⟨#[]⟩ : ByteArray),bt334.2)))) = some (r1,r2) := h
 clear h
 replace H := Option.bind_eq_some_iff.mp H
 obtain ⟨⟨t334,t335⟩,A20,H⟩ := H
 replace H : (if t335 = 0 then ((batonref01_Varint.f k (IntKind.u64.wrap ((t334.size : Int)))).bind fun t336=>(batonref03_Write.l0 k l0 t336 0)) else (some ((⟨#[]⟩ : ByteArray),t335))) = some (r1,r2) := H
 have A2 := Aside0.mk A20
 clear A20
 by_cases c3 : t335 = 0
 ·rw [if_pos c3] at H
  have c3b0 : (t335 == 0) = true := beq_iff_eq.mpr c3
  have c3b1 : (t335 != 0) = false := bne_eq_false_iff_eq.mpr c3
  clear c3
  replace H := Option.bind_eq_some_iff.mp H
  obtain ⟨t336,A40,H⟩ := H
  replace H : (batonref03_Write.l0 k l0 t336 0) = some (r1,r2) := H
  have A4 := Aside0.mk A40
  clear A40
  have H' := Aside0.mk H
  clear H
  go_enter Try.func22,Try.ntmps22
  go_wp2_with (first|((with_reducible refine gate_callee (f := 21) rfl ?_);refine goesL_ (some 10) rfl rfl Try.func21 (by kernel_rfl) rfl #[.slice A0 l0.length c0,.int .i64 65536] rfl (by (try simp only [List.map_toArray,List.map_cons,List.map_nil]);first|done|rfl|(simp only [List.length_drop,List.length_take];rfl)) ?_;(with_reducible refine (batonref03_Expand.calls k _ _ l0 65536 t334 t335 _ ?side1 ?side2 A2.out).mono ?_);(case side1=>repeat (first|exact HR0.out|(with_reducible refine Kd.C_alloc ?_ _)|(with_reducible refine Kd.C_drewN ?_ _)|(with_reducible refine Kd.C_drew ?_)));(case side2=>exact HC0.out);rintro e w5 ⟨rfl,hb⟩;refine ⟨_,rfl,?_⟩;have n0_ := Aside0.mk (below_step (bl_) hb);clear HB;have HB := n0_;clear n0_;(try clear hb);(try clear hb2);(try clear hk);(try clear hi))|((with_reducible refine gate_callee (f := 45) rfl ?_);refine goesL_ (some 19) rfl rfl Try.func45 (by kernel_rfl) rfl #[.int .u64 (IntKind.u64.wrap ((t334.size : Int)))] rfl (by (try simp only [List.map_toArray,List.map_cons,List.map_nil]);first|done|rfl|(simp only [List.length_drop,List.length_take];rfl)) ?_;(with_reducible refine (batonref01_Varint.calls k (IntKind.u64.wrap ((t334.size : Int))) t336 _ A4.out).mono ?_);rintro e w6 ⟨rfl,hb⟩;refine ⟨_,rfl,?_⟩;have n0_ := Aside0.mk (below_step (bl_) hb);clear HB;have HB := n0_;clear n0_;(try clear hb);(try clear hb2);(try clear hk);(try clear hi)))
  go_loopg [6,7] k (fun kq v6 v7 w'=>∃ (x6_1 : ByteArray) (x7_1 : Int),v6 = .string x6_1 ∧ v7 = .int .i64 x7_1 ∧ Aside0 (batonref03_Write.l0 kq l0 x6_1 x7_1 = some (r1,r2)) ∧ Aside0 (kq ≤ k) ∧ Aside0 (Below w.heap.size w w'))
  case atStart=>exact ⟨(t336),(0),(by first|rfl|(simp;done)|(simp [*];done)),(by first|rfl|(simp;done)|(simp [*];done)),H',⟨Nat.le_refl _⟩,⟨bl_⟩⟩
  case round =>
   clear H'
   try clear c2
   try clear p2
   try clear c3
   try clear c3b0
   try clear c3b1
   try clear c4
   obtain ⟨x6_1,x7_1,rfl,rfl,HA,HK1,HB⟩ := hrel
   cases gk with
   | zero=>exact absurd HA.out (by simp [batonref03_Write.l0])
   | succ k1 =>
    have H := HA.out
    clear HA
    simp only [batonref03_Write.l0] at H
    by_cases c7 : x7_1 < (l0.length : Int)
    ·rw [if_pos c7] at H
     have c7b0 : decide (x7_1 < (l0.length : Int)) = true := decide_eq_true c7
     clear c7
     by_cases c8 : 0 ≤ x7_1
     ·rw [if_pos c8] at H
      have c8b0 : decide (0 ≤ x7_1) = true := decide_eq_true c8
      clear c8
      replace H := Option.bind_eq_some_iff.mp H
      obtain ⟨t338,A90,H⟩ := H
      replace H : (if x6_1.size + t338.size ≤ 9223372036854775807 then (batonref03_Write.l0 k1 l0 (x6_1 ++ t338) (wrap64 (x7_1 + 1))) else (none)) = some (r1,r2) := H
      have A9 := Aside0.mk A90
      clear A90
      by_cases c10 : x6_1.size + t338.size ≤ 9223372036854775807
      ·rw [if_pos c10] at H
       have c10b0 := eq_true c10
       have c10b1 : decide (x6_1.size + t338.size ≤ 9223372036854775807) = true := decide_eq_true c10
       try have c10b2 : (9223372036854775807 < x6_1.size + t338.size) = False := eq_false (Nat.not_lt.2 c10)
       have H' := Aside0.mk H
       clear H
       have p337 : 0 ≤ (x7_1 : Int) := of_decide_eq_true (by first|(with_reducible assumption)|assumption)
       have q337 : x7_1 < (l0.length : Int) := of_decide_eq_true (by first|(with_reducible assumption)|assumption)
       obtain ⟨ad337,e337,hx337_0,hx337_1,hx337_2,hx337_3⟩ := at_T72 HR0.out x7_1 p337 q337
       cases e337
       replace hx337_0 := (HB.out.cell (World.block_lt_of_cell? w _ hx337_0)).trans hx337_0
       replace hx337_1 := (HB.out.cell (World.block_lt_of_cell? w _ hx337_1)).trans hx337_1
       replace hx337_2 := (HB.out.cell (World.block_lt_of_cell? w _ hx337_2)).trans hx337_2
       replace hx337_3 := (HB.out.cell (World.block_lt_of_cell? w _ hx337_3)).trans hx337_3
       replace p337 := eq_true p337
       replace q337 := eq_true q337
       go_wp2_with (first|((with_reducible refine gate_callee (f := 46) rfl ?_);refine goesL_ (some 31) rfl rfl Try.func46 (by kernel_rfl) rfl #[.agg #[.bool ((rd_T72 l0 x7_1).f0),.string ((rd_T72 l0 x7_1).f1),.int .i64 ((rd_T72 l0 x7_1).f2),.int .i64 ((rd_T72 l0 x7_1).f3)]] rfl (by (try simp only [List.map_toArray,List.map_cons,List.map_nil]);first|done|rfl|(simp only [List.length_drop,List.length_take];rfl)) ?_;(with_reducible refine (batonref03_one.calls k1 ((rd_T72 l0 x7_1).f0) ((rd_T72 l0 x7_1).f1) ((rd_T72 l0 x7_1).f2) ((rd_T72 l0 x7_1).f3) t338 _ A9.out).mono ?_);rintro e w11 ⟨rfl,hb⟩;refine ⟨_,rfl,?_⟩;have n0_ := Aside0.mk (below_step (bl_) hb);clear HB;have HB := n0_;clear n0_;(try clear hb);(try clear hb2);(try clear hk);(try clear hi)))
       go_roundg k1
       case measure=>have := HK1.out;omega
       case rel=>exact ⟨(x6_1 ++ t338),(wrap64 (x7_1 + 1)),(by first|rfl|(simp;done)|(simp [*];done)),(by first|rfl|(simp;done)|(simp [*];done)),H',⟨by have := HK1.out;omega⟩,⟨bl_⟩⟩
      ·rw [if_neg c10] at H
       exact absurd H (by simp)
     ·rw [if_neg c8] at H
      exact absurd H (by simp)
    ·rw [if_neg c7] at H
     have c7b0 : decide (x7_1 < (l0.length : Int)) = false := decide_eq_false c7
     clear c7
     simp only [Option.some.injEq,Prod.mk.injEq] at H
     obtain ⟨rfl,rfl⟩ := H
     go_wp2
     go_ret2
     exact ⟨by first|rfl|(simp [errW_none,errW_some] <;> rfl)|(simp [*,errW_none,errW_some] <;> rfl),bl_⟩
 ·rw [if_neg c3] at H
  have c3b0 : (t335 == 0) = false := beq_eq_false_iff_ne.mpr c3
  have c3b1 : (t335 != 0) = true := bne_iff_ne.mpr c3
  simp only [Option.some.injEq,Prod.mk.injEq] at H
  obtain ⟨rfl,rfl⟩ := H
  go_enter Try.func22,Try.ntmps22
  go_wp2_with (first|((with_reducible refine gate_callee (f := 21) rfl ?_);refine goesL_ (some 10) rfl rfl Try.func21 (by kernel_rfl) rfl #[.slice A0 l0.length c0,.int .i64 65536] rfl (by (try simp only [List.map_toArray,List.map_cons,List.map_nil]);first|done|rfl|(simp only [List.length_drop,List.length_take];rfl)) ?_;(with_reducible refine (batonref03_Expand.calls k _ _ l0 65536 t334 t335 _ ?side1 ?side2 A2.out).mono ?_);(case side1=>repeat (first|exact HR0.out|(with_reducible refine Kd.C_alloc ?_ _)|(with_reducible refine Kd.C_drewN ?_ _)|(with_reducible refine Kd.C_drew ?_)));(case side2=>exact HC0.out);rintro e w12 ⟨rfl,hb⟩;refine ⟨_,rfl,?_⟩;have n0_ := Aside0.mk (below_step (bl_) hb);clear HB;have HB := n0_;clear n0_;(try clear hb);(try clear hb2);(try clear hk);(try clear hi)))
  go_ret2
  exact ⟨by first|rfl|(simp [errW_none,errW_some] <;> rfl)|(simp [*,errW_none,errW_some] <;> rfl),bl_⟩

/-! ### batonref03_Encode: function 26 -/
def batonref03_Encode.f (k : Nat) (a0 : ByteArray) : Option (ByteArray × Int) := (batonref03_Pack.f k a0).bind fun bt339 => (if bt339.2 = 0 then ((batonref03_Write.f k bt339.1).bind fun bt343 => (some (bt343.1, bt343.2))) else (some ((⟨#[]⟩ : ByteArray), bt339.2)))
theorem batonref03_Encode.mono : ∀ a0 k, LeO (batonref03_Encode.f k a0) (batonref03_Encode.f (k + 1) a0) := by
 intro a0 k
 unfold batonref03_Encode.f
 repeat' first
   | (with_reducible exact batonref03_Pack.mono _ _)
   | (with_reducible exact batonref03_Write.mono _ _)
   | (with_reducible exact LeO.refl _)
   | (with_reducible exact LeO.none _)
   | (with_reducible refine LeO.ite ?_ ?_)
   | (with_reducible refine LeO.bind ?_ (fun _=>?_))
   | exact batonref03_Pack.mono _ _
   | exact batonref03_Write.mono _ _
   | exact LeO.none _
   | refine LeO.ite ?_ ?_
   | refine LeO.bind ?_ (fun _=>?_)
set_option maxHeartbeats 8000000 in
set_option maxRecDepth 100000 in
theorem batonref03_Encode.calls (k : Nat) (a0 : ByteArray) (r1 : ByteArray) (r2 : Int) (w : World) (h : batonref03_Encode.f k a0 = some (r1, r2)) :
  Calls Try.prog 26 #[.string a0] w fun e w'=>e = .returned (.tuple #[.string r1,.int .i64 r2]) ∧ Below w.heap.size w w' := by
 have HB := Aside0.mk (Below.refl w.heap.size w)
 have H : ((batonref03_Pack.f k a0).bind fun bt339=>(if bt339.2 = 0 then ((batonref03_Write.f k bt339.1).bind fun bt343=>(some (bt343.1,bt343.2))) else (some ((⟨#[]⟩ : ByteArray),bt339.2)))) = some (r1,r2) := h
 clear h
 replace H := Option.bind_eq_some_iff.mp H
 obtain ⟨⟨t339,t340⟩,A20,H⟩ := H
 replace H : (if t340 = 0 then ((batonref03_Write.f k t339).bind fun bt343=>(some (bt343.1,bt343.2))) else (some ((⟨#[]⟩ : ByteArray),t340))) = some (r1,r2) := H
 have A2 := Aside0.mk A20
 clear A20
 by_cases c3 : t340 = 0
 ·rw [if_pos c3] at H
  have c3b0 : (t340 == 0) = true := beq_iff_eq.mpr c3
  have c3b1 : (t340 != 0) = false := bne_eq_false_iff_eq.mpr c3
  clear c3
  replace H := Option.bind_eq_some_iff.mp H
  obtain ⟨⟨t343,t344⟩,A40,H⟩ := H
  replace H : (some (t343,t344)) = some (r1,r2) := H
  have A4 := Aside0.mk A40
  clear A40
  simp only [Option.some.injEq,Prod.mk.injEq] at H
  obtain ⟨rfl,rfl⟩ := H
  go_enter Try.func26,Try.ntmps26
  go_wp2_with (first|((with_reducible refine gate_callee (f := 25) rfl ?_);refine goesL_ (some 8) rfl rfl Try.func25 (by kernel_rfl) rfl #[.string a0] rfl (by (try simp only [List.map_toArray,List.map_cons,List.map_nil]);first|done|rfl|(simp only [List.length_drop,List.length_take];rfl)) ?_;(with_reducible refine (batonref03_Pack.calls k a0 t339 t340 _ A2.out).mono ?_);rintro e w5 ⟨v341,rfl,ho0,hb⟩;refine ⟨_,rfl,?_⟩;have n0_ := Aside0.mk (Kd.R_lower ho0 (below_size (bl_)));have n1_ := Aside0.mk (below_step (bl_) hb);clear HB;have HO342 := n0_;have HB := n1_;clear n0_ n1_;(try clear hb);(try clear hb2);(try clear hk);(try clear hi);(try clear ho0);obtain ⟨Ao6,co6,eo6⟩ := Kd.R_slice HO342.out;subst eo6)|((with_reducible refine gate_callee (f := 22) rfl ?_);refine goesL_ (some 15) rfl rfl Try.func22 (by kernel_rfl) rfl #[.slice Ao6 t339.length co6] rfl (by (try simp only [List.map_toArray,List.map_cons,List.map_nil]);first|done|rfl|(simp only [List.length_drop,List.length_take];rfl)) ?_;(with_reducible refine (batonref03_Write.calls k _ _ t339 t343 t344 _ ?side1 ?side2 A4.out).mono ?_);(case side1=>repeat (first|exact (Kd.R_reads' HO342.out).2.2|(with_reducible refine Kd.C_alloc ?_ _)|(with_reducible refine Kd.C_drewN ?_ _)|(with_reducible refine Kd.C_drew ?_)));(case side2=>exact (Kd.R_reads' HO342.out).2.1);rintro e w7 ⟨rfl,hb⟩;refine ⟨_,rfl,?_⟩;have n0_ := Aside0.mk (Kd.R_below (by (with_reducible repeat (first|apply Kd.R_alloc|apply Kd.R_drewN|apply Kd.R_drew));exact HO342.out) hb);have n1_ := Aside0.mk (below_step (bl_) hb);clear HO342;clear HB;have HO342 := n0_;have HB := n1_;clear n0_ n1_;(try clear hb);(try clear hb2);(try clear hk);(try clear hi)))
  go_ret2
  exact ⟨by first|rfl|(simp [errW_none,errW_some] <;> rfl)|(simp [*,errW_none,errW_some] <;> rfl),bl_⟩
 ·rw [if_neg c3] at H
  have c3b0 : (t340 == 0) = false := beq_eq_false_iff_ne.mpr c3
  have c3b1 : (t340 != 0) = true := bne_iff_ne.mpr c3
  simp only [Option.some.injEq,Prod.mk.injEq] at H
  obtain ⟨rfl,rfl⟩ := H
  go_enter Try.func26,Try.ntmps26
  go_wp2_with (first|((with_reducible refine gate_callee (f := 25) rfl ?_);refine goesL_ (some 8) rfl rfl Try.func25 (by kernel_rfl) rfl #[.string a0] rfl (by (try simp only [List.map_toArray,List.map_cons,List.map_nil]);first|done|rfl|(simp only [List.length_drop,List.length_take];rfl)) ?_;(with_reducible refine (batonref03_Pack.calls k a0 t339 t340 _ A2.out).mono ?_);rintro e w8 ⟨v341,rfl,ho0,hb⟩;refine ⟨_,rfl,?_⟩;have n0_ := Aside0.mk (Kd.R_lower ho0 (below_size (bl_)));have n1_ := Aside0.mk (below_step (bl_) hb);clear HB;have HO342 := n0_;have HB := n1_;clear n0_ n1_;(try clear hb);(try clear hb2);(try clear hk);(try clear hi);(try clear ho0)))
  go_ret2
  exact ⟨by first|rfl|(simp [errW_none,errW_some] <;> rfl)|(simp [*,errW_none,errW_some] <;> rfl),bl_⟩

/-! ### batonlaw03_SnappyPacks: function 5 -/
def batonlaw03_SnappyPacks.f (k : Nat) (a0 : ByteArray) (a1 : Int) : Option (Bool) := if (a0.size : Int) > 600 then ((batonlaw03_awake.f k).bind fun t345 => (some t345)) else ((snappy_Match.f k a0 a1).bind fun bt346 => ((batonref03_Match.f k a0 a1).bind fun bt348 => ((snappy_Pack.f k a0).bind fun bt350 => ((batonref03_Pack.f k a0).bind fun bt354 => ((snappy_Encode.f k a0).bind fun bt358 => ((batonref03_Encode.f k a0).bind fun bt360 => (if bt346.1 = bt348.1 then (if bt346.2 = bt348.2 then ((batonlaw03_same.f k bt350.1 bt354.1).bind fun t362 => (if t362 = true then (if bt350.2 = bt354.2 then (if bt358.1.toList = bt360.1.toList then (if bt358.2 = bt360.2 then ((batonlaw03_awake.f k).bind fun t363 => (some t363)) else (some false)) else (some false)) else (some false)) else (some false))) else (some false)) else (some false))))))))
theorem batonlaw03_SnappyPacks.mono : ∀ a0 a1 k, LeO (batonlaw03_SnappyPacks.f k a0 a1) (batonlaw03_SnappyPacks.f (k + 1) a0 a1) := by
 intro a0 a1 k
 unfold batonlaw03_SnappyPacks.f
 repeat' first
   | (with_reducible exact batonlaw03_awake.mono _)
   | (with_reducible exact batonlaw03_same.mono _ _ _)
   | (with_reducible exact batonref03_Encode.mono _ _)
   | (with_reducible exact batonref03_Match.mono _ _ _)
   | (with_reducible exact batonref03_Pack.mono _ _)
   | (with_reducible exact snappy_Encode.mono _ _)
   | (with_reducible exact snappy_Match.mono _ _ _)
   | (with_reducible exact snappy_Pack.mono _ _)
   | (with_reducible exact LeO.refl _)
   | (with_reducible exact LeO.none _)
   | (with_reducible refine LeO.ite ?_ ?_)
   | (with_reducible refine LeO.bind ?_ (fun _=>?_))
   | exact batonlaw03_awake.mono _
   | exact batonlaw03_same.mono _ _ _
   | exact batonref03_Encode.mono _ _
   | exact batonref03_Match.mono _ _ _
   | exact batonref03_Pack.mono _ _
   | exact snappy_Encode.mono _ _
   | exact snappy_Match.mono _ _ _
   | exact snappy_Pack.mono _ _
   | exact LeO.none _
   | refine LeO.ite ?_ ?_
   | refine LeO.bind ?_ (fun _=>?_)
set_option maxHeartbeats 8000000 in
set_option maxRecDepth 100000 in
theorem batonlaw03_SnappyPacks.calls (k : Nat) (a0 : ByteArray) (a1 : Int) (r : Bool) (w : World) (h : batonlaw03_SnappyPacks.f k a0 a1 = some r) :
  Calls Try.prog 5 #[.string a0,.int .i64 a1] w fun e w'=>e = .returned (.bool r) ∧ Below w.heap.size w w' := by
 have HB := Aside0.mk (Below.refl w.heap.size w)
 have H : (if (a0.size : Int) > 600 then ((batonlaw03_awake.f k).bind fun t345=>(some t345)) else ((snappy_Match.f k a0 a1).bind fun bt346=>((batonref03_Match.f k a0 a1).bind fun bt348=>((snappy_Pack.f k a0).bind fun bt350=>((batonref03_Pack.f k a0).bind fun bt354=>((snappy_Encode.f k a0).bind fun bt358=>((batonref03_Encode.f k a0).bind fun bt360=>(if bt346.1 = bt348.1 then (if bt346.2 = bt348.2 then ((batonlaw03_same.f k bt350.1 bt354.1).bind fun t362=>(if t362 = true then (if bt350.2 = bt354.2 then (if bt358.1.toList = bt360.1.toList then (if bt358.2 = bt360.2 then ((batonlaw03_awake.f k).bind fun t363=>(some t363)) else (some false)) else (some false)) else (some false)) else (some false))) else (some false)) else (some false))))))))) = some r := h
 clear h
 by_cases c3 : (a0.size : Int) > 600
 ·rw [if_pos c3] at H
  have c3b0 : decide (600 < (a0.size : Int)) = true := decide_eq_true c3
  have c3b1 : decide (600 < a0.size) = true := decide_eq_true (by omega)
  clear c3
  replace H := Option.bind_eq_some_iff.mp H
  obtain ⟨t345,A40,H⟩ := H
  replace H : (some t345) = some r := H
  have A4 := Aside0.mk A40
  clear A40
  obtain rfl := Option.some.inj H
  go_enter Try.func5,Try.ntmps5
  go_wp2_with (first|((with_reducible refine gate_callee (f := 12) rfl ?_);refine goesL_ (some 20) rfl rfl Try.func12 (by kernel_rfl) rfl #[] rfl (by (try simp only [List.map_toArray,List.map_cons,List.map_nil]);first|done|rfl|(simp only [List.length_drop,List.length_take];rfl)) ?_;(with_reducible refine (batonlaw03_awake.calls k  t345 _ A4.out).mono ?_);rintro e w5 ⟨rfl,hb⟩;refine ⟨_,rfl,?_⟩;have n0_ := Aside0.mk (below_step (bl_) hb);clear HB;have HB := n0_;clear n0_;(try clear hb);(try clear hb2);(try clear hk);(try clear hi)))
  go_ret
  exact ⟨by first|rfl|(simp [errW_none,errW_some] <;> rfl)|(simp [*,errW_none,errW_some] <;> rfl),bl_⟩
 ·rw [if_neg c3] at H
  have c3b0 : decide (600 < (a0.size : Int)) = false := decide_eq_false c3
  have c3b1 : decide (600 < a0.size) = false := decide_eq_false (by omega)
  clear c3
  replace H := Option.bind_eq_some_iff.mp H
  obtain ⟨⟨t346,t347⟩,A60,H⟩ := H
  replace H : ((batonref03_Match.f k a0 a1).bind fun bt348=>((snappy_Pack.f k a0).bind fun bt350=>((batonref03_Pack.f k a0).bind fun bt354=>((snappy_Encode.f k a0).bind fun bt358=>((batonref03_Encode.f k a0).bind fun bt360=>(if t346 = bt348.1 then (if t347 = bt348.2 then ((batonlaw03_same.f k bt350.1 bt354.1).bind fun t362=>(if t362 = true then (if bt350.2 = bt354.2 then (if bt358.1.toList = bt360.1.toList then (if bt358.2 = bt360.2 then ((batonlaw03_awake.f k).bind fun t363=>(some t363)) else (some false)) else (some false)) else (some false)) else (some false))) else (some false)) else (some false))))))) = some r := H
  have A6 := Aside0.mk A60
  clear A60
  replace H := Option.bind_eq_some_iff.mp H
  obtain ⟨⟨t348,t349⟩,A70,H⟩ := H
  replace H : ((snappy_Pack.f k a0).bind fun bt350=>((batonref03_Pack.f k a0).bind fun bt354=>((snappy_Encode.f k a0).bind fun bt358=>((batonref03_Encode.f k a0).bind fun bt360=>(if t346 = t348 then (if t347 = t349 then ((batonlaw03_same.f k bt350.1 bt354.1).bind fun t362=>(if t362 = true then (if bt350.2 = bt354.2 then (if bt358.1.toList = bt360.1.toList then (if bt358.2 = bt360.2 then ((batonlaw03_awake.f k).bind fun t363=>(some t363)) else (some false)) else (some false)) else (some false)) else (some false))) else (some false)) else (some false)))))) = some r := H
  have A7 := Aside0.mk A70
  clear A70
  replace H := Option.bind_eq_some_iff.mp H
  obtain ⟨⟨t350,t351⟩,A80,H⟩ := H
  replace H : ((batonref03_Pack.f k a0).bind fun bt354=>((snappy_Encode.f k a0).bind fun bt358=>((batonref03_Encode.f k a0).bind fun bt360=>(if t346 = t348 then (if t347 = t349 then ((batonlaw03_same.f k t350 bt354.1).bind fun t362=>(if t362 = true then (if t351 = bt354.2 then (if bt358.1.toList = bt360.1.toList then (if bt358.2 = bt360.2 then ((batonlaw03_awake.f k).bind fun t363=>(some t363)) else (some false)) else (some false)) else (some false)) else (some false))) else (some false)) else (some false))))) = some r := H
  have A8 := Aside0.mk A80
  clear A80
  replace H := Option.bind_eq_some_iff.mp H
  obtain ⟨⟨t354,t355⟩,A90,H⟩ := H
  replace H : ((snappy_Encode.f k a0).bind fun bt358=>((batonref03_Encode.f k a0).bind fun bt360=>(if t346 = t348 then (if t347 = t349 then ((batonlaw03_same.f k t350 t354).bind fun t362=>(if t362 = true then (if t351 = t355 then (if bt358.1.toList = bt360.1.toList then (if bt358.2 = bt360.2 then ((batonlaw03_awake.f k).bind fun t363=>(some t363)) else (some false)) else (some false)) else (some false)) else (some false))) else (some false)) else (some false)))) = some r := H
  have A9 := Aside0.mk A90
  clear A90
  replace H := Option.bind_eq_some_iff.mp H
  obtain ⟨⟨t358,t359⟩,A100,H⟩ := H
  replace H : ((batonref03_Encode.f k a0).bind fun bt360=>(if t346 = t348 then (if t347 = t349 then ((batonlaw03_same.f k t350 t354).bind fun t362=>(if t362 = true then (if t351 = t355 then (if t358.toList = bt360.1.toList then (if t359 = bt360.2 then ((batonlaw03_awake.f k).bind fun t363=>(some t363)) else (some false)) else (some false)) else (some false)) else (some false))) else (some false)) else (some false))) = some r := H
  have A10 := Aside0.mk A100
  clear A100
  replace H := Option.bind_eq_some_iff.mp H
  obtain ⟨⟨t360,t361⟩,A110,H⟩ := H
  replace H : (if t346 = t348 then (if t347 = t349 then ((batonlaw03_same.f k t350 t354).bind fun t362=>(if t362 = true then (if t351 = t355 then (if t358.toList = t360.toList then (if t359 = t361 then ((batonlaw03_awake.f k).bind fun t363=>(some t363)) else (some false)) else (some false)) else (some false)) else (some false))) else (some false)) else (some false)) = some r := H
  have A11 := Aside0.mk A110
  clear A110
  by_cases c12 : t346 = t348
  ·rw [if_pos c12] at H
   have c12b0 : (t346 == t348) = true := beq_iff_eq.mpr c12
   have c12b1 : (t346 != t348) = false := bne_eq_false_iff_eq.mpr c12
   clear c12
   by_cases c13 : t347 = t349
   ·rw [if_pos c13] at H
    have c13b0 : (t347 == t349) = true := beq_iff_eq.mpr c13
    have c13b1 : (t347 != t349) = false := bne_eq_false_iff_eq.mpr c13
    clear c13
    replace H := Option.bind_eq_some_iff.mp H
    obtain ⟨t362,A140,H⟩ := H
    replace H : (if t362 = true then (if t351 = t355 then (if t358.toList = t360.toList then (if t359 = t361 then ((batonlaw03_awake.f k).bind fun t363=>(some t363)) else (some false)) else (some false)) else (some false)) else (some false)) = some r := H
    have A14 := Aside0.mk A140
    clear A140
    by_cases c15 : t362 = true
    ·subst c15
     have H1 : (if t351 = t355 then (if t358.toList = t360.toList then (if t359 = t361 then ((batonlaw03_awake.f k).bind fun t363=>(some t363)) else (some false)) else (some false)) else (some false)) = some r := by rw [if_pos rfl] at H;exact H
     clear H
     have H := H1
     clear H1
     by_cases c16 : t351 = t355
     ·rw [if_pos c16] at H
      have c16b0 : (t351 == t355) = true := beq_iff_eq.mpr c16
      have c16b1 : (t351 != t355) = false := bne_eq_false_iff_eq.mpr c16
      clear c16
      by_cases c17 : t358.toList = t360.toList
      ·rw [if_pos c17] at H
       have c17b0 : (t358.toList == t360.toList) = true := beq_iff_eq.mpr c17
       have c17b1 : (t358.toList != t360.toList) = false := bne_eq_false_iff_eq.mpr c17
       clear c17
       by_cases c18 : t359 = t361
       ·rw [if_pos c18] at H
        have c18b0 : (t359 == t361) = true := beq_iff_eq.mpr c18
        have c18b1 : (t359 != t361) = false := bne_eq_false_iff_eq.mpr c18
        clear c18
        replace H := Option.bind_eq_some_iff.mp H
        obtain ⟨t363,A190,H⟩ := H
        replace H : (some t363) = some r := H
        have A19 := Aside0.mk A190
        clear A190
        obtain rfl := Option.some.inj H
        go_enter Try.func5,Try.ntmps5
        go_wp2_with (first|((with_reducible refine gate_callee (f := 18) rfl ?_);refine goesL_ (some 24) rfl rfl Try.func18 (by kernel_rfl) rfl #[.string a0,.int .i64 a1] rfl (by (try simp only [List.map_toArray,List.map_cons,List.map_nil]);first|done|rfl|(simp only [List.length_drop,List.length_take];rfl)) ?_;(with_reducible refine (snappy_Match.calls k a0 a1 t346 t347 _ A6.out).mono ?_);rintro e w20 ⟨rfl,hb⟩;refine ⟨_,rfl,?_⟩;have n0_ := Aside0.mk (below_step (bl_) hb);clear HB;have HB := n0_;clear n0_;(try clear hb);(try clear hb2);(try clear hk);(try clear hi))|((with_reducible refine gate_callee (f := 24) rfl ?_);refine goesL_ (some 30) rfl rfl Try.func24 (by kernel_rfl) rfl #[.string a0,.int .i64 a1] rfl (by (try simp only [List.map_toArray,List.map_cons,List.map_nil]);first|done|rfl|(simp only [List.length_drop,List.length_take];rfl)) ?_;(with_reducible refine (batonref03_Match.calls k a0 a1 t348 t349 _ A7.out).mono ?_);rintro e w' ⟨rfl,⟨nd,rfl⟩⟩;refine ⟨_,rfl,?_⟩)|((with_reducible refine gate_callee (f := 15) rfl ?_);refine goesL_ (some 35) rfl rfl Try.func15 (by kernel_rfl) rfl #[.string a0] rfl (by (try simp only [List.map_toArray,List.map_cons,List.map_nil]);first|done|rfl|(simp only [List.length_drop,List.length_take];rfl)) ?_;(with_reducible refine (snappy_Pack.calls k a0 t350 t351 _ A8.out).mono ?_);rintro e w21 ⟨v352,rfl,ho0,hb⟩;refine ⟨_,rfl,?_⟩;have n0_ := Aside0.mk (Kd.R_lower ho0 (below_size (bl_)));have n1_ := Aside0.mk (below_step (bl_) hb);clear HB;have HO353 := n0_;have HB := n1_;clear n0_ n1_;(try clear hb);(try clear hb2);(try clear hk);(try clear hi);(try clear ho0))|((with_reducible refine gate_callee (f := 25) rfl ?_);refine goesL_ (some 40) rfl rfl Try.func25 (by kernel_rfl) rfl #[.string a0] rfl (by (try simp only [List.map_toArray,List.map_cons,List.map_nil]);first|done|rfl|(simp only [List.length_drop,List.length_take];rfl)) ?_;(with_reducible refine (batonref03_Pack.calls k a0 t354 t355 _ A9.out).mono ?_);rintro e w22 ⟨v356,rfl,ho0,hb⟩;refine ⟨_,rfl,?_⟩;have n0_ := Aside0.mk (Kd.R_below (by (with_reducible repeat (first|apply Kd.R_alloc|apply Kd.R_drewN|apply Kd.R_drew));exact HO353.out) hb);have n1_ := Aside0.mk (Kd.R_lower ho0 (below_size (bl_)));have n2_ := Aside0.mk (below_step (bl_) hb);clear HO353;clear HB;have HO353 := n0_;have HO357 := n1_;have HB := n2_;clear n0_ n1_ n2_;(try clear hb);(try clear hb2);(try clear hk);(try clear hi);(try clear ho0))|((with_reducible refine gate_callee (f := 14) rfl ?_);refine goesL_ (some 45) rfl rfl Try.func14 (by kernel_rfl) rfl #[.string a0] rfl (by (try simp only [List.map_toArray,List.map_cons,List.map_nil]);first|done|rfl|(simp only [List.length_drop,List.length_take];rfl)) ?_;(with_reducible refine (snappy_Encode.calls k a0 t358 t359 _ A10.out).mono ?_);rintro e w23 ⟨rfl,hb⟩;refine ⟨_,rfl,?_⟩;have n0_ := Aside0.mk (Kd.R_below (by (with_reducible repeat (first|apply Kd.R_alloc|apply Kd.R_drewN|apply Kd.R_drew));exact HO353.out) hb);have n1_ := Aside0.mk (Kd.R_below (by (with_reducible repeat (first|apply Kd.R_alloc|apply Kd.R_drewN|apply Kd.R_drew));exact HO357.out) hb);have n2_ := Aside0.mk (below_step (bl_) hb);clear HO353;clear HO357;clear HB;have HO353 := n0_;have HO357 := n1_;have HB := n2_;clear n0_ n1_ n2_;(try clear hb);(try clear hb2);(try clear hk);(try clear hi))|((with_reducible refine gate_callee (f := 26) rfl ?_);refine goesL_ (some 50) rfl rfl Try.func26 (by kernel_rfl) rfl #[.string a0] rfl (by (try simp only [List.map_toArray,List.map_cons,List.map_nil]);first|done|rfl|(simp only [List.length_drop,List.length_take];rfl)) ?_;(with_reducible refine (batonref03_Encode.calls k a0 t360 t361 _ A11.out).mono ?_);rintro e w24 ⟨rfl,hb⟩;refine ⟨_,rfl,?_⟩;have n0_ := Aside0.mk (Kd.R_below (by (with_reducible repeat (first|apply Kd.R_alloc|apply Kd.R_drewN|apply Kd.R_drew));exact HO353.out) hb);have n1_ := Aside0.mk (Kd.R_below (by (with_reducible repeat (first|apply Kd.R_alloc|apply Kd.R_drewN|apply Kd.R_drew));exact HO357.out) hb);have n2_ := Aside0.mk (below_step (bl_) hb);clear HO353;clear HO357;clear HB;have HO353 := n0_;have HO357 := n1_;have HB := n2_;clear n0_ n1_ n2_;(try clear hb);(try clear hb2);(try clear hk);(try clear hi);obtain ⟨Ao25,co25,eo25⟩ := Kd.R_slice HO353.out;subst eo25;obtain ⟨Ao26,co26,eo26⟩ := Kd.R_slice HO357.out;subst eo26)|(go_at_call 23;(with_reducible refine (batonlaw03_same.calls k _ _ t350 _ _ t354 true _ ?side1 ?side2 ?side3 ?side4 A14.out).mono ?_);(case side1=>repeat (first|exact (Kd.R_reads' HO353.out).2.2|(with_reducible refine Kd.C_alloc ?_ _)|(with_reducible refine Kd.C_drewN ?_ _)|(with_reducible refine Kd.C_drew ?_)));(case side2=>exact (Kd.R_reads' HO353.out).2.1);(case side3=>repeat (first|exact (Kd.R_reads' HO357.out).2.2|(with_reducible refine Kd.C_alloc ?_ _)|(with_reducible refine Kd.C_drewN ?_ _)|(with_reducible refine Kd.C_drew ?_)));(case side4=>exact (Kd.R_reads' HO357.out).2.1);rintro e w' ⟨rfl,⟨nd,rfl⟩⟩)|(go_at_call 12;(with_reducible refine (batonlaw03_awake.calls k  t363 _ A19.out).mono ?_);rintro e w27 ⟨rfl,hb⟩;have n0_ := Aside0.mk (Kd.R_below (by (with_reducible repeat (first|apply Kd.R_alloc|apply Kd.R_drewN|apply Kd.R_drew));exact HO353.out) hb);have n1_ := Aside0.mk (Kd.R_below (by (with_reducible repeat (first|apply Kd.R_alloc|apply Kd.R_drewN|apply Kd.R_drew));exact HO357.out) hb);have n2_ := Aside0.mk (below_step (bl_) hb);clear HO353;clear HO357;clear HB;have HO353 := n0_;have HO357 := n1_;have HB := n2_;clear n0_ n1_ n2_;(try clear hb);(try clear hb2);(try clear hk);(try clear hi)))
        go_ret
        exact ⟨by first|rfl|(simp [errW_none,errW_some] <;> rfl)|(simp [*,errW_none,errW_some] <;> rfl),bl_⟩
       ·rw [if_neg c18] at H
        have c18b0 : (t359 == t361) = false := beq_eq_false_iff_ne.mpr c18
        have c18b1 : (t359 != t361) = true := bne_iff_ne.mpr c18
        obtain rfl := Option.some.inj H
        go_enter Try.func5,Try.ntmps5
        go_wp2_with (first|((with_reducible refine gate_callee (f := 18) rfl ?_);refine goesL_ (some 24) rfl rfl Try.func18 (by kernel_rfl) rfl #[.string a0,.int .i64 a1] rfl (by (try simp only [List.map_toArray,List.map_cons,List.map_nil]);first|done|rfl|(simp only [List.length_drop,List.length_take];rfl)) ?_;(with_reducible refine (snappy_Match.calls k a0 a1 t346 t347 _ A6.out).mono ?_);rintro e w28 ⟨rfl,hb⟩;refine ⟨_,rfl,?_⟩;have n0_ := Aside0.mk (below_step (bl_) hb);clear HB;have HB := n0_;clear n0_;(try clear hb);(try clear hb2);(try clear hk);(try clear hi))|((with_reducible refine gate_callee (f := 24) rfl ?_);refine goesL_ (some 30) rfl rfl Try.func24 (by kernel_rfl) rfl #[.string a0,.int .i64 a1] rfl (by (try simp only [List.map_toArray,List.map_cons,List.map_nil]);first|done|rfl|(simp only [List.length_drop,List.length_take];rfl)) ?_;(with_reducible refine (batonref03_Match.calls k a0 a1 t348 t349 _ A7.out).mono ?_);rintro e w' ⟨rfl,⟨nd,rfl⟩⟩;refine ⟨_,rfl,?_⟩)|((with_reducible refine gate_callee (f := 15) rfl ?_);refine goesL_ (some 35) rfl rfl Try.func15 (by kernel_rfl) rfl #[.string a0] rfl (by (try simp only [List.map_toArray,List.map_cons,List.map_nil]);first|done|rfl|(simp only [List.length_drop,List.length_take];rfl)) ?_;(with_reducible refine (snappy_Pack.calls k a0 t350 t351 _ A8.out).mono ?_);rintro e w29 ⟨v352,rfl,ho0,hb⟩;refine ⟨_,rfl,?_⟩;have n0_ := Aside0.mk (Kd.R_lower ho0 (below_size (bl_)));have n1_ := Aside0.mk (below_step (bl_) hb);clear HB;have HO353 := n0_;have HB := n1_;clear n0_ n1_;(try clear hb);(try clear hb2);(try clear hk);(try clear hi);(try clear ho0))|((with_reducible refine gate_callee (f := 25) rfl ?_);refine goesL_ (some 40) rfl rfl Try.func25 (by kernel_rfl) rfl #[.string a0] rfl (by (try simp only [List.map_toArray,List.map_cons,List.map_nil]);first|done|rfl|(simp only [List.length_drop,List.length_take];rfl)) ?_;(with_reducible refine (batonref03_Pack.calls k a0 t354 t355 _ A9.out).mono ?_);rintro e w30 ⟨v356,rfl,ho0,hb⟩;refine ⟨_,rfl,?_⟩;have n0_ := Aside0.mk (Kd.R_below (by (with_reducible repeat (first|apply Kd.R_alloc|apply Kd.R_drewN|apply Kd.R_drew));exact HO353.out) hb);have n1_ := Aside0.mk (Kd.R_lower ho0 (below_size (bl_)));have n2_ := Aside0.mk (below_step (bl_) hb);clear HO353;clear HB;have HO353 := n0_;have HO357 := n1_;have HB := n2_;clear n0_ n1_ n2_;(try clear hb);(try clear hb2);(try clear hk);(try clear hi);(try clear ho0))|((with_reducible refine gate_callee (f := 14) rfl ?_);refine goesL_ (some 45) rfl rfl Try.func14 (by kernel_rfl) rfl #[.string a0] rfl (by (try simp only [List.map_toArray,List.map_cons,List.map_nil]);first|done|rfl|(simp only [List.length_drop,List.length_take];rfl)) ?_;(with_reducible refine (snappy_Encode.calls k a0 t358 t359 _ A10.out).mono ?_);rintro e w31 ⟨rfl,hb⟩;refine ⟨_,rfl,?_⟩;have n0_ := Aside0.mk (Kd.R_below (by (with_reducible repeat (first|apply Kd.R_alloc|apply Kd.R_drewN|apply Kd.R_drew));exact HO353.out) hb);have n1_ := Aside0.mk (Kd.R_below (by (with_reducible repeat (first|apply Kd.R_alloc|apply Kd.R_drewN|apply Kd.R_drew));exact HO357.out) hb);have n2_ := Aside0.mk (below_step (bl_) hb);clear HO353;clear HO357;clear HB;have HO353 := n0_;have HO357 := n1_;have HB := n2_;clear n0_ n1_ n2_;(try clear hb);(try clear hb2);(try clear hk);(try clear hi))|((with_reducible refine gate_callee (f := 26) rfl ?_);refine goesL_ (some 50) rfl rfl Try.func26 (by kernel_rfl) rfl #[.string a0] rfl (by (try simp only [List.map_toArray,List.map_cons,List.map_nil]);first|done|rfl|(simp only [List.length_drop,List.length_take];rfl)) ?_;(with_reducible refine (batonref03_Encode.calls k a0 t360 t361 _ A11.out).mono ?_);rintro e w32 ⟨rfl,hb⟩;refine ⟨_,rfl,?_⟩;have n0_ := Aside0.mk (Kd.R_below (by (with_reducible repeat (first|apply Kd.R_alloc|apply Kd.R_drewN|apply Kd.R_drew));exact HO353.out) hb);have n1_ := Aside0.mk (Kd.R_below (by (with_reducible repeat (first|apply Kd.R_alloc|apply Kd.R_drewN|apply Kd.R_drew));exact HO357.out) hb);have n2_ := Aside0.mk (below_step (bl_) hb);clear HO353;clear HO357;clear HB;have HO353 := n0_;have HO357 := n1_;have HB := n2_;clear n0_ n1_ n2_;(try clear hb);(try clear hb2);(try clear hk);(try clear hi);obtain ⟨Ao33,co33,eo33⟩ := Kd.R_slice HO353.out;subst eo33;obtain ⟨Ao34,co34,eo34⟩ := Kd.R_slice HO357.out;subst eo34)|(go_at_call 23;(with_reducible refine (batonlaw03_same.calls k _ _ t350 _ _ t354 true _ ?side1 ?side2 ?side3 ?side4 A14.out).mono ?_);(case side1=>repeat (first|exact (Kd.R_reads' HO353.out).2.2|(with_reducible refine Kd.C_alloc ?_ _)|(with_reducible refine Kd.C_drewN ?_ _)|(with_reducible refine Kd.C_drew ?_)));(case side2=>exact (Kd.R_reads' HO353.out).2.1);(case side3=>repeat (first|exact (Kd.R_reads' HO357.out).2.2|(with_reducible refine Kd.C_alloc ?_ _)|(with_reducible refine Kd.C_drewN ?_ _)|(with_reducible refine Kd.C_drew ?_)));(case side4=>exact (Kd.R_reads' HO357.out).2.1);rintro e w' ⟨rfl,⟨nd,rfl⟩⟩))
        go_ret
        exact ⟨by first|rfl|(simp [errW_none,errW_some] <;> rfl)|(simp [*,errW_none,errW_some] <;> rfl),bl_⟩
      ·rw [if_neg c17] at H
       have c17b0 : (t358.toList == t360.toList) = false := beq_eq_false_iff_ne.mpr c17
       have c17b1 : (t358.toList != t360.toList) = true := bne_iff_ne.mpr c17
       obtain rfl := Option.some.inj H
       go_enter Try.func5,Try.ntmps5
       go_wp2_with (first|((with_reducible refine gate_callee (f := 18) rfl ?_);refine goesL_ (some 24) rfl rfl Try.func18 (by kernel_rfl) rfl #[.string a0,.int .i64 a1] rfl (by (try simp only [List.map_toArray,List.map_cons,List.map_nil]);first|done|rfl|(simp only [List.length_drop,List.length_take];rfl)) ?_;(with_reducible refine (snappy_Match.calls k a0 a1 t346 t347 _ A6.out).mono ?_);rintro e w35 ⟨rfl,hb⟩;refine ⟨_,rfl,?_⟩;have n0_ := Aside0.mk (below_step (bl_) hb);clear HB;have HB := n0_;clear n0_;(try clear hb);(try clear hb2);(try clear hk);(try clear hi))|((with_reducible refine gate_callee (f := 24) rfl ?_);refine goesL_ (some 30) rfl rfl Try.func24 (by kernel_rfl) rfl #[.string a0,.int .i64 a1] rfl (by (try simp only [List.map_toArray,List.map_cons,List.map_nil]);first|done|rfl|(simp only [List.length_drop,List.length_take];rfl)) ?_;(with_reducible refine (batonref03_Match.calls k a0 a1 t348 t349 _ A7.out).mono ?_);rintro e w' ⟨rfl,⟨nd,rfl⟩⟩;refine ⟨_,rfl,?_⟩)|((with_reducible refine gate_callee (f := 15) rfl ?_);refine goesL_ (some 35) rfl rfl Try.func15 (by kernel_rfl) rfl #[.string a0] rfl (by (try simp only [List.map_toArray,List.map_cons,List.map_nil]);first|done|rfl|(simp only [List.length_drop,List.length_take];rfl)) ?_;(with_reducible refine (snappy_Pack.calls k a0 t350 t351 _ A8.out).mono ?_);rintro e w36 ⟨v352,rfl,ho0,hb⟩;refine ⟨_,rfl,?_⟩;have n0_ := Aside0.mk (Kd.R_lower ho0 (below_size (bl_)));have n1_ := Aside0.mk (below_step (bl_) hb);clear HB;have HO353 := n0_;have HB := n1_;clear n0_ n1_;(try clear hb);(try clear hb2);(try clear hk);(try clear hi);(try clear ho0))|((with_reducible refine gate_callee (f := 25) rfl ?_);refine goesL_ (some 40) rfl rfl Try.func25 (by kernel_rfl) rfl #[.string a0] rfl (by (try simp only [List.map_toArray,List.map_cons,List.map_nil]);first|done|rfl|(simp only [List.length_drop,List.length_take];rfl)) ?_;(with_reducible refine (batonref03_Pack.calls k a0 t354 t355 _ A9.out).mono ?_);rintro e w37 ⟨v356,rfl,ho0,hb⟩;refine ⟨_,rfl,?_⟩;have n0_ := Aside0.mk (Kd.R_below (by (with_reducible repeat (first|apply Kd.R_alloc|apply Kd.R_drewN|apply Kd.R_drew));exact HO353.out) hb);have n1_ := Aside0.mk (Kd.R_lower ho0 (below_size (bl_)));have n2_ := Aside0.mk (below_step (bl_) hb);clear HO353;clear HB;have HO353 := n0_;have HO357 := n1_;have HB := n2_;clear n0_ n1_ n2_;(try clear hb);(try clear hb2);(try clear hk);(try clear hi);(try clear ho0))|((with_reducible refine gate_callee (f := 14) rfl ?_);refine goesL_ (some 45) rfl rfl Try.func14 (by kernel_rfl) rfl #[.string a0] rfl (by (try simp only [List.map_toArray,List.map_cons,List.map_nil]);first|done|rfl|(simp only [List.length_drop,List.length_take];rfl)) ?_;(with_reducible refine (snappy_Encode.calls k a0 t358 t359 _ A10.out).mono ?_);rintro e w38 ⟨rfl,hb⟩;refine ⟨_,rfl,?_⟩;have n0_ := Aside0.mk (Kd.R_below (by (with_reducible repeat (first|apply Kd.R_alloc|apply Kd.R_drewN|apply Kd.R_drew));exact HO353.out) hb);have n1_ := Aside0.mk (Kd.R_below (by (with_reducible repeat (first|apply Kd.R_alloc|apply Kd.R_drewN|apply Kd.R_drew));exact HO357.out) hb);have n2_ := Aside0.mk (below_step (bl_) hb);clear HO353;clear HO357;clear HB;have HO353 := n0_;have HO357 := n1_;have HB := n2_;clear n0_ n1_ n2_;(try clear hb);(try clear hb2);(try clear hk);(try clear hi))|((with_reducible refine gate_callee (f := 26) rfl ?_);refine goesL_ (some 50) rfl rfl Try.func26 (by kernel_rfl) rfl #[.string a0] rfl (by (try simp only [List.map_toArray,List.map_cons,List.map_nil]);first|done|rfl|(simp only [List.length_drop,List.length_take];rfl)) ?_;(with_reducible refine (batonref03_Encode.calls k a0 t360 t361 _ A11.out).mono ?_);rintro e w39 ⟨rfl,hb⟩;refine ⟨_,rfl,?_⟩;have n0_ := Aside0.mk (Kd.R_below (by (with_reducible repeat (first|apply Kd.R_alloc|apply Kd.R_drewN|apply Kd.R_drew));exact HO353.out) hb);have n1_ := Aside0.mk (Kd.R_below (by (with_reducible repeat (first|apply Kd.R_alloc|apply Kd.R_drewN|apply Kd.R_drew));exact HO357.out) hb);have n2_ := Aside0.mk (below_step (bl_) hb);clear HO353;clear HO357;clear HB;have HO353 := n0_;have HO357 := n1_;have HB := n2_;clear n0_ n1_ n2_;(try clear hb);(try clear hb2);(try clear hk);(try clear hi);obtain ⟨Ao40,co40,eo40⟩ := Kd.R_slice HO353.out;subst eo40;obtain ⟨Ao41,co41,eo41⟩ := Kd.R_slice HO357.out;subst eo41)|(go_at_call 23;(with_reducible refine (batonlaw03_same.calls k _ _ t350 _ _ t354 true _ ?side1 ?side2 ?side3 ?side4 A14.out).mono ?_);(case side1=>repeat (first|exact (Kd.R_reads' HO353.out).2.2|(with_reducible refine Kd.C_alloc ?_ _)|(with_reducible refine Kd.C_drewN ?_ _)|(with_reducible refine Kd.C_drew ?_)));(case side2=>exact (Kd.R_reads' HO353.out).2.1);(case side3=>repeat (first|exact (Kd.R_reads' HO357.out).2.2|(with_reducible refine Kd.C_alloc ?_ _)|(with_reducible refine Kd.C_drewN ?_ _)|(with_reducible refine Kd.C_drew ?_)));(case side4=>exact (Kd.R_reads' HO357.out).2.1);rintro e w' ⟨rfl,⟨nd,rfl⟩⟩))
       go_ret
       exact ⟨by first|rfl|(simp [errW_none,errW_some] <;> rfl)|(simp [*,errW_none,errW_some] <;> rfl),bl_⟩
     ·rw [if_neg c16] at H
      have c16b0 : (t351 == t355) = false := beq_eq_false_iff_ne.mpr c16
      have c16b1 : (t351 != t355) = true := bne_iff_ne.mpr c16
      obtain rfl := Option.some.inj H
      go_enter Try.func5,Try.ntmps5
      go_wp2_with (first|((with_reducible refine gate_callee (f := 18) rfl ?_);refine goesL_ (some 24) rfl rfl Try.func18 (by kernel_rfl) rfl #[.string a0,.int .i64 a1] rfl (by (try simp only [List.map_toArray,List.map_cons,List.map_nil]);first|done|rfl|(simp only [List.length_drop,List.length_take];rfl)) ?_;(with_reducible refine (snappy_Match.calls k a0 a1 t346 t347 _ A6.out).mono ?_);rintro e w42 ⟨rfl,hb⟩;refine ⟨_,rfl,?_⟩;have n0_ := Aside0.mk (below_step (bl_) hb);clear HB;have HB := n0_;clear n0_;(try clear hb);(try clear hb2);(try clear hk);(try clear hi))|((with_reducible refine gate_callee (f := 24) rfl ?_);refine goesL_ (some 30) rfl rfl Try.func24 (by kernel_rfl) rfl #[.string a0,.int .i64 a1] rfl (by (try simp only [List.map_toArray,List.map_cons,List.map_nil]);first|done|rfl|(simp only [List.length_drop,List.length_take];rfl)) ?_;(with_reducible refine (batonref03_Match.calls k a0 a1 t348 t349 _ A7.out).mono ?_);rintro e w' ⟨rfl,⟨nd,rfl⟩⟩;refine ⟨_,rfl,?_⟩)|((with_reducible refine gate_callee (f := 15) rfl ?_);refine goesL_ (some 35) rfl rfl Try.func15 (by kernel_rfl) rfl #[.string a0] rfl (by (try simp only [List.map_toArray,List.map_cons,List.map_nil]);first|done|rfl|(simp only [List.length_drop,List.length_take];rfl)) ?_;(with_reducible refine (snappy_Pack.calls k a0 t350 t351 _ A8.out).mono ?_);rintro e w43 ⟨v352,rfl,ho0,hb⟩;refine ⟨_,rfl,?_⟩;have n0_ := Aside0.mk (Kd.R_lower ho0 (below_size (bl_)));have n1_ := Aside0.mk (below_step (bl_) hb);clear HB;have HO353 := n0_;have HB := n1_;clear n0_ n1_;(try clear hb);(try clear hb2);(try clear hk);(try clear hi);(try clear ho0))|((with_reducible refine gate_callee (f := 25) rfl ?_);refine goesL_ (some 40) rfl rfl Try.func25 (by kernel_rfl) rfl #[.string a0] rfl (by (try simp only [List.map_toArray,List.map_cons,List.map_nil]);first|done|rfl|(simp only [List.length_drop,List.length_take];rfl)) ?_;(with_reducible refine (batonref03_Pack.calls k a0 t354 t355 _ A9.out).mono ?_);rintro e w44 ⟨v356,rfl,ho0,hb⟩;refine ⟨_,rfl,?_⟩;have n0_ := Aside0.mk (Kd.R_below (by (with_reducible repeat (first|apply Kd.R_alloc|apply Kd.R_drewN|apply Kd.R_drew));exact HO353.out) hb);have n1_ := Aside0.mk (Kd.R_lower ho0 (below_size (bl_)));have n2_ := Aside0.mk (below_step (bl_) hb);clear HO353;clear HB;have HO353 := n0_;have HO357 := n1_;have HB := n2_;clear n0_ n1_ n2_;(try clear hb);(try clear hb2);(try clear hk);(try clear hi);(try clear ho0))|((with_reducible refine gate_callee (f := 14) rfl ?_);refine goesL_ (some 45) rfl rfl Try.func14 (by kernel_rfl) rfl #[.string a0] rfl (by (try simp only [List.map_toArray,List.map_cons,List.map_nil]);first|done|rfl|(simp only [List.length_drop,List.length_take];rfl)) ?_;(with_reducible refine (snappy_Encode.calls k a0 t358 t359 _ A10.out).mono ?_);rintro e w45 ⟨rfl,hb⟩;refine ⟨_,rfl,?_⟩;have n0_ := Aside0.mk (Kd.R_below (by (with_reducible repeat (first|apply Kd.R_alloc|apply Kd.R_drewN|apply Kd.R_drew));exact HO353.out) hb);have n1_ := Aside0.mk (Kd.R_below (by (with_reducible repeat (first|apply Kd.R_alloc|apply Kd.R_drewN|apply Kd.R_drew));exact HO357.out) hb);have n2_ := Aside0.mk (below_step (bl_) hb);clear HO353;clear HO357;clear HB;have HO353 := n0_;have HO357 := n1_;have HB := n2_;clear n0_ n1_ n2_;(try clear hb);(try clear hb2);(try clear hk);(try clear hi))|((with_reducible refine gate_callee (f := 26) rfl ?_);refine goesL_ (some 50) rfl rfl Try.func26 (by kernel_rfl) rfl #[.string a0] rfl (by (try simp only [List.map_toArray,List.map_cons,List.map_nil]);first|done|rfl|(simp only [List.length_drop,List.length_take];rfl)) ?_;(with_reducible refine (batonref03_Encode.calls k a0 t360 t361 _ A11.out).mono ?_);rintro e w46 ⟨rfl,hb⟩;refine ⟨_,rfl,?_⟩;have n0_ := Aside0.mk (Kd.R_below (by (with_reducible repeat (first|apply Kd.R_alloc|apply Kd.R_drewN|apply Kd.R_drew));exact HO353.out) hb);have n1_ := Aside0.mk (Kd.R_below (by (with_reducible repeat (first|apply Kd.R_alloc|apply Kd.R_drewN|apply Kd.R_drew));exact HO357.out) hb);have n2_ := Aside0.mk (below_step (bl_) hb);clear HO353;clear HO357;clear HB;have HO353 := n0_;have HO357 := n1_;have HB := n2_;clear n0_ n1_ n2_;(try clear hb);(try clear hb2);(try clear hk);(try clear hi);obtain ⟨Ao47,co47,eo47⟩ := Kd.R_slice HO353.out;subst eo47;obtain ⟨Ao48,co48,eo48⟩ := Kd.R_slice HO357.out;subst eo48)|(go_at_call 23;(with_reducible refine (batonlaw03_same.calls k _ _ t350 _ _ t354 true _ ?side1 ?side2 ?side3 ?side4 A14.out).mono ?_);(case side1=>repeat (first|exact (Kd.R_reads' HO353.out).2.2|(with_reducible refine Kd.C_alloc ?_ _)|(with_reducible refine Kd.C_drewN ?_ _)|(with_reducible refine Kd.C_drew ?_)));(case side2=>exact (Kd.R_reads' HO353.out).2.1);(case side3=>repeat (first|exact (Kd.R_reads' HO357.out).2.2|(with_reducible refine Kd.C_alloc ?_ _)|(with_reducible refine Kd.C_drewN ?_ _)|(with_reducible refine Kd.C_drew ?_)));(case side4=>exact (Kd.R_reads' HO357.out).2.1);rintro e w' ⟨rfl,⟨nd,rfl⟩⟩))
      go_ret
      exact ⟨by first|rfl|(simp [errW_none,errW_some] <;> rfl)|(simp [*,errW_none,errW_some] <;> rfl),bl_⟩
    ·replace c15 := Bool.eq_false_iff.mpr c15
     subst c15
     have H1 : (some false) = some r := by rw [if_neg (show ¬ (false = true) by decide)] at H;exact H
     clear H
     have H := H1
     clear H1
     obtain rfl := Option.some.inj H
     go_enter Try.func5,Try.ntmps5
     go_wp2_with (first|((with_reducible refine gate_callee (f := 18) rfl ?_);refine goesL_ (some 24) rfl rfl Try.func18 (by kernel_rfl) rfl #[.string a0,.int .i64 a1] rfl (by (try simp only [List.map_toArray,List.map_cons,List.map_nil]);first|done|rfl|(simp only [List.length_drop,List.length_take];rfl)) ?_;(with_reducible refine (snappy_Match.calls k a0 a1 t346 t347 _ A6.out).mono ?_);rintro e w49 ⟨rfl,hb⟩;refine ⟨_,rfl,?_⟩;have n0_ := Aside0.mk (below_step (bl_) hb);clear HB;have HB := n0_;clear n0_;(try clear hb);(try clear hb2);(try clear hk);(try clear hi))|((with_reducible refine gate_callee (f := 24) rfl ?_);refine goesL_ (some 30) rfl rfl Try.func24 (by kernel_rfl) rfl #[.string a0,.int .i64 a1] rfl (by (try simp only [List.map_toArray,List.map_cons,List.map_nil]);first|done|rfl|(simp only [List.length_drop,List.length_take];rfl)) ?_;(with_reducible refine (batonref03_Match.calls k a0 a1 t348 t349 _ A7.out).mono ?_);rintro e w' ⟨rfl,⟨nd,rfl⟩⟩;refine ⟨_,rfl,?_⟩)|((with_reducible refine gate_callee (f := 15) rfl ?_);refine goesL_ (some 35) rfl rfl Try.func15 (by kernel_rfl) rfl #[.string a0] rfl (by (try simp only [List.map_toArray,List.map_cons,List.map_nil]);first|done|rfl|(simp only [List.length_drop,List.length_take];rfl)) ?_;(with_reducible refine (snappy_Pack.calls k a0 t350 t351 _ A8.out).mono ?_);rintro e w50 ⟨v352,rfl,ho0,hb⟩;refine ⟨_,rfl,?_⟩;have n0_ := Aside0.mk (Kd.R_lower ho0 (below_size (bl_)));have n1_ := Aside0.mk (below_step (bl_) hb);clear HB;have HO353 := n0_;have HB := n1_;clear n0_ n1_;(try clear hb);(try clear hb2);(try clear hk);(try clear hi);(try clear ho0))|((with_reducible refine gate_callee (f := 25) rfl ?_);refine goesL_ (some 40) rfl rfl Try.func25 (by kernel_rfl) rfl #[.string a0] rfl (by (try simp only [List.map_toArray,List.map_cons,List.map_nil]);first|done|rfl|(simp only [List.length_drop,List.length_take];rfl)) ?_;(with_reducible refine (batonref03_Pack.calls k a0 t354 t355 _ A9.out).mono ?_);rintro e w51 ⟨v356,rfl,ho0,hb⟩;refine ⟨_,rfl,?_⟩;have n0_ := Aside0.mk (Kd.R_below (by (with_reducible repeat (first|apply Kd.R_alloc|apply Kd.R_drewN|apply Kd.R_drew));exact HO353.out) hb);have n1_ := Aside0.mk (Kd.R_lower ho0 (below_size (bl_)));have n2_ := Aside0.mk (below_step (bl_) hb);clear HO353;clear HB;have HO353 := n0_;have HO357 := n1_;have HB := n2_;clear n0_ n1_ n2_;(try clear hb);(try clear hb2);(try clear hk);(try clear hi);(try clear ho0))|((with_reducible refine gate_callee (f := 14) rfl ?_);refine goesL_ (some 45) rfl rfl Try.func14 (by kernel_rfl) rfl #[.string a0] rfl (by (try simp only [List.map_toArray,List.map_cons,List.map_nil]);first|done|rfl|(simp only [List.length_drop,List.length_take];rfl)) ?_;(with_reducible refine (snappy_Encode.calls k a0 t358 t359 _ A10.out).mono ?_);rintro e w52 ⟨rfl,hb⟩;refine ⟨_,rfl,?_⟩;have n0_ := Aside0.mk (Kd.R_below (by (with_reducible repeat (first|apply Kd.R_alloc|apply Kd.R_drewN|apply Kd.R_drew));exact HO353.out) hb);have n1_ := Aside0.mk (Kd.R_below (by (with_reducible repeat (first|apply Kd.R_alloc|apply Kd.R_drewN|apply Kd.R_drew));exact HO357.out) hb);have n2_ := Aside0.mk (below_step (bl_) hb);clear HO353;clear HO357;clear HB;have HO353 := n0_;have HO357 := n1_;have HB := n2_;clear n0_ n1_ n2_;(try clear hb);(try clear hb2);(try clear hk);(try clear hi))|((with_reducible refine gate_callee (f := 26) rfl ?_);refine goesL_ (some 50) rfl rfl Try.func26 (by kernel_rfl) rfl #[.string a0] rfl (by (try simp only [List.map_toArray,List.map_cons,List.map_nil]);first|done|rfl|(simp only [List.length_drop,List.length_take];rfl)) ?_;(with_reducible refine (batonref03_Encode.calls k a0 t360 t361 _ A11.out).mono ?_);rintro e w53 ⟨rfl,hb⟩;refine ⟨_,rfl,?_⟩;have n0_ := Aside0.mk (Kd.R_below (by (with_reducible repeat (first|apply Kd.R_alloc|apply Kd.R_drewN|apply Kd.R_drew));exact HO353.out) hb);have n1_ := Aside0.mk (Kd.R_below (by (with_reducible repeat (first|apply Kd.R_alloc|apply Kd.R_drewN|apply Kd.R_drew));exact HO357.out) hb);have n2_ := Aside0.mk (below_step (bl_) hb);clear HO353;clear HO357;clear HB;have HO353 := n0_;have HO357 := n1_;have HB := n2_;clear n0_ n1_ n2_;(try clear hb);(try clear hb2);(try clear hk);(try clear hi);obtain ⟨Ao54,co54,eo54⟩ := Kd.R_slice HO353.out;subst eo54;obtain ⟨Ao55,co55,eo55⟩ := Kd.R_slice HO357.out;subst eo55)|(go_at_call 23;(with_reducible refine (batonlaw03_same.calls k _ _ t350 _ _ t354 false _ ?side1 ?side2 ?side3 ?side4 A14.out).mono ?_);(case side1=>repeat (first|exact (Kd.R_reads' HO353.out).2.2|(with_reducible refine Kd.C_alloc ?_ _)|(with_reducible refine Kd.C_drewN ?_ _)|(with_reducible refine Kd.C_drew ?_)));(case side2=>exact (Kd.R_reads' HO353.out).2.1);(case side3=>repeat (first|exact (Kd.R_reads' HO357.out).2.2|(with_reducible refine Kd.C_alloc ?_ _)|(with_reducible refine Kd.C_drewN ?_ _)|(with_reducible refine Kd.C_drew ?_)));(case side4=>exact (Kd.R_reads' HO357.out).2.1);rintro e w' ⟨rfl,⟨nd,rfl⟩⟩))
     go_ret
     exact ⟨by first|rfl|(simp [errW_none,errW_some] <;> rfl)|(simp [*,errW_none,errW_some] <;> rfl),bl_⟩
   ·rw [if_neg c13] at H
    have c13b0 : (t347 == t349) = false := beq_eq_false_iff_ne.mpr c13
    have c13b1 : (t347 != t349) = true := bne_iff_ne.mpr c13
    obtain rfl := Option.some.inj H
    go_enter Try.func5,Try.ntmps5
    go_wp2_with (first|((with_reducible refine gate_callee (f := 18) rfl ?_);refine goesL_ (some 24) rfl rfl Try.func18 (by kernel_rfl) rfl #[.string a0,.int .i64 a1] rfl (by (try simp only [List.map_toArray,List.map_cons,List.map_nil]);first|done|rfl|(simp only [List.length_drop,List.length_take];rfl)) ?_;(with_reducible refine (snappy_Match.calls k a0 a1 t346 t347 _ A6.out).mono ?_);rintro e w56 ⟨rfl,hb⟩;refine ⟨_,rfl,?_⟩;have n0_ := Aside0.mk (below_step (bl_) hb);clear HB;have HB := n0_;clear n0_;(try clear hb);(try clear hb2);(try clear hk);(try clear hi))|((with_reducible refine gate_callee (f := 24) rfl ?_);refine goesL_ (some 30) rfl rfl Try.func24 (by kernel_rfl) rfl #[.string a0,.int .i64 a1] rfl (by (try simp only [List.map_toArray,List.map_cons,List.map_nil]);first|done|rfl|(simp only [List.length_drop,List.length_take];rfl)) ?_;(with_reducible refine (batonref03_Match.calls k a0 a1 t348 t349 _ A7.out).mono ?_);rintro e w' ⟨rfl,⟨nd,rfl⟩⟩;refine ⟨_,rfl,?_⟩)|((with_reducible refine gate_callee (f := 15) rfl ?_);refine goesL_ (some 35) rfl rfl Try.func15 (by kernel_rfl) rfl #[.string a0] rfl (by (try simp only [List.map_toArray,List.map_cons,List.map_nil]);first|done|rfl|(simp only [List.length_drop,List.length_take];rfl)) ?_;(with_reducible refine (snappy_Pack.calls k a0 t350 t351 _ A8.out).mono ?_);rintro e w57 ⟨v352,rfl,ho0,hb⟩;refine ⟨_,rfl,?_⟩;have n0_ := Aside0.mk (Kd.R_lower ho0 (below_size (bl_)));have n1_ := Aside0.mk (below_step (bl_) hb);clear HB;have HO353 := n0_;have HB := n1_;clear n0_ n1_;(try clear hb);(try clear hb2);(try clear hk);(try clear hi);(try clear ho0))|((with_reducible refine gate_callee (f := 25) rfl ?_);refine goesL_ (some 40) rfl rfl Try.func25 (by kernel_rfl) rfl #[.string a0] rfl (by (try simp only [List.map_toArray,List.map_cons,List.map_nil]);first|done|rfl|(simp only [List.length_drop,List.length_take];rfl)) ?_;(with_reducible refine (batonref03_Pack.calls k a0 t354 t355 _ A9.out).mono ?_);rintro e w58 ⟨v356,rfl,ho0,hb⟩;refine ⟨_,rfl,?_⟩;have n0_ := Aside0.mk (Kd.R_below (by (with_reducible repeat (first|apply Kd.R_alloc|apply Kd.R_drewN|apply Kd.R_drew));exact HO353.out) hb);have n1_ := Aside0.mk (Kd.R_lower ho0 (below_size (bl_)));have n2_ := Aside0.mk (below_step (bl_) hb);clear HO353;clear HB;have HO353 := n0_;have HO357 := n1_;have HB := n2_;clear n0_ n1_ n2_;(try clear hb);(try clear hb2);(try clear hk);(try clear hi);(try clear ho0))|((with_reducible refine gate_callee (f := 14) rfl ?_);refine goesL_ (some 45) rfl rfl Try.func14 (by kernel_rfl) rfl #[.string a0] rfl (by (try simp only [List.map_toArray,List.map_cons,List.map_nil]);first|done|rfl|(simp only [List.length_drop,List.length_take];rfl)) ?_;(with_reducible refine (snappy_Encode.calls k a0 t358 t359 _ A10.out).mono ?_);rintro e w59 ⟨rfl,hb⟩;refine ⟨_,rfl,?_⟩;have n0_ := Aside0.mk (Kd.R_below (by (with_reducible repeat (first|apply Kd.R_alloc|apply Kd.R_drewN|apply Kd.R_drew));exact HO353.out) hb);have n1_ := Aside0.mk (Kd.R_below (by (with_reducible repeat (first|apply Kd.R_alloc|apply Kd.R_drewN|apply Kd.R_drew));exact HO357.out) hb);have n2_ := Aside0.mk (below_step (bl_) hb);clear HO353;clear HO357;clear HB;have HO353 := n0_;have HO357 := n1_;have HB := n2_;clear n0_ n1_ n2_;(try clear hb);(try clear hb2);(try clear hk);(try clear hi))|((with_reducible refine gate_callee (f := 26) rfl ?_);refine goesL_ (some 50) rfl rfl Try.func26 (by kernel_rfl) rfl #[.string a0] rfl (by (try simp only [List.map_toArray,List.map_cons,List.map_nil]);first|done|rfl|(simp only [List.length_drop,List.length_take];rfl)) ?_;(with_reducible refine (batonref03_Encode.calls k a0 t360 t361 _ A11.out).mono ?_);rintro e w60 ⟨rfl,hb⟩;refine ⟨_,rfl,?_⟩;have n0_ := Aside0.mk (Kd.R_below (by (with_reducible repeat (first|apply Kd.R_alloc|apply Kd.R_drewN|apply Kd.R_drew));exact HO353.out) hb);have n1_ := Aside0.mk (Kd.R_below (by (with_reducible repeat (first|apply Kd.R_alloc|apply Kd.R_drewN|apply Kd.R_drew));exact HO357.out) hb);have n2_ := Aside0.mk (below_step (bl_) hb);clear HO353;clear HO357;clear HB;have HO353 := n0_;have HO357 := n1_;have HB := n2_;clear n0_ n1_ n2_;(try clear hb);(try clear hb2);(try clear hk);(try clear hi)))
    go_ret
    exact ⟨by first|rfl|(simp [errW_none,errW_some] <;> rfl)|(simp [*,errW_none,errW_some] <;> rfl),bl_⟩
  ·rw [if_neg c12] at H
   have c12b0 : (t346 == t348) = false := beq_eq_false_iff_ne.mpr c12
   have c12b1 : (t346 != t348) = true := bne_iff_ne.mpr c12
   obtain rfl := Option.some.inj H
   go_enter Try.func5,Try.ntmps5
   go_wp2_with (first|((with_reducible refine gate_callee (f := 18) rfl ?_);refine goesL_ (some 24) rfl rfl Try.func18 (by kernel_rfl) rfl #[.string a0,.int .i64 a1] rfl (by (try simp only [List.map_toArray,List.map_cons,List.map_nil]);first|done|rfl|(simp only [List.length_drop,List.length_take];rfl)) ?_;(with_reducible refine (snappy_Match.calls k a0 a1 t346 t347 _ A6.out).mono ?_);rintro e w61 ⟨rfl,hb⟩;refine ⟨_,rfl,?_⟩;have n0_ := Aside0.mk (below_step (bl_) hb);clear HB;have HB := n0_;clear n0_;(try clear hb);(try clear hb2);(try clear hk);(try clear hi))|((with_reducible refine gate_callee (f := 24) rfl ?_);refine goesL_ (some 30) rfl rfl Try.func24 (by kernel_rfl) rfl #[.string a0,.int .i64 a1] rfl (by (try simp only [List.map_toArray,List.map_cons,List.map_nil]);first|done|rfl|(simp only [List.length_drop,List.length_take];rfl)) ?_;(with_reducible refine (batonref03_Match.calls k a0 a1 t348 t349 _ A7.out).mono ?_);rintro e w' ⟨rfl,⟨nd,rfl⟩⟩;refine ⟨_,rfl,?_⟩)|((with_reducible refine gate_callee (f := 15) rfl ?_);refine goesL_ (some 35) rfl rfl Try.func15 (by kernel_rfl) rfl #[.string a0] rfl (by (try simp only [List.map_toArray,List.map_cons,List.map_nil]);first|done|rfl|(simp only [List.length_drop,List.length_take];rfl)) ?_;(with_reducible refine (snappy_Pack.calls k a0 t350 t351 _ A8.out).mono ?_);rintro e w62 ⟨v352,rfl,ho0,hb⟩;refine ⟨_,rfl,?_⟩;have n0_ := Aside0.mk (Kd.R_lower ho0 (below_size (bl_)));have n1_ := Aside0.mk (below_step (bl_) hb);clear HB;have HO353 := n0_;have HB := n1_;clear n0_ n1_;(try clear hb);(try clear hb2);(try clear hk);(try clear hi);(try clear ho0))|((with_reducible refine gate_callee (f := 25) rfl ?_);refine goesL_ (some 40) rfl rfl Try.func25 (by kernel_rfl) rfl #[.string a0] rfl (by (try simp only [List.map_toArray,List.map_cons,List.map_nil]);first|done|rfl|(simp only [List.length_drop,List.length_take];rfl)) ?_;(with_reducible refine (batonref03_Pack.calls k a0 t354 t355 _ A9.out).mono ?_);rintro e w63 ⟨v356,rfl,ho0,hb⟩;refine ⟨_,rfl,?_⟩;have n0_ := Aside0.mk (Kd.R_below (by (with_reducible repeat (first|apply Kd.R_alloc|apply Kd.R_drewN|apply Kd.R_drew));exact HO353.out) hb);have n1_ := Aside0.mk (Kd.R_lower ho0 (below_size (bl_)));have n2_ := Aside0.mk (below_step (bl_) hb);clear HO353;clear HB;have HO353 := n0_;have HO357 := n1_;have HB := n2_;clear n0_ n1_ n2_;(try clear hb);(try clear hb2);(try clear hk);(try clear hi);(try clear ho0))|((with_reducible refine gate_callee (f := 14) rfl ?_);refine goesL_ (some 45) rfl rfl Try.func14 (by kernel_rfl) rfl #[.string a0] rfl (by (try simp only [List.map_toArray,List.map_cons,List.map_nil]);first|done|rfl|(simp only [List.length_drop,List.length_take];rfl)) ?_;(with_reducible refine (snappy_Encode.calls k a0 t358 t359 _ A10.out).mono ?_);rintro e w64 ⟨rfl,hb⟩;refine ⟨_,rfl,?_⟩;have n0_ := Aside0.mk (Kd.R_below (by (with_reducible repeat (first|apply Kd.R_alloc|apply Kd.R_drewN|apply Kd.R_drew));exact HO353.out) hb);have n1_ := Aside0.mk (Kd.R_below (by (with_reducible repeat (first|apply Kd.R_alloc|apply Kd.R_drewN|apply Kd.R_drew));exact HO357.out) hb);have n2_ := Aside0.mk (below_step (bl_) hb);clear HO353;clear HO357;clear HB;have HO353 := n0_;have HO357 := n1_;have HB := n2_;clear n0_ n1_ n2_;(try clear hb);(try clear hb2);(try clear hk);(try clear hi))|((with_reducible refine gate_callee (f := 26) rfl ?_);refine goesL_ (some 50) rfl rfl Try.func26 (by kernel_rfl) rfl #[.string a0] rfl (by (try simp only [List.map_toArray,List.map_cons,List.map_nil]);first|done|rfl|(simp only [List.length_drop,List.length_take];rfl)) ?_;(with_reducible refine (batonref03_Encode.calls k a0 t360 t361 _ A11.out).mono ?_);rintro e w65 ⟨rfl,hb⟩;refine ⟨_,rfl,?_⟩;have n0_ := Aside0.mk (Kd.R_below (by (with_reducible repeat (first|apply Kd.R_alloc|apply Kd.R_drewN|apply Kd.R_drew));exact HO353.out) hb);have n1_ := Aside0.mk (Kd.R_below (by (with_reducible repeat (first|apply Kd.R_alloc|apply Kd.R_drewN|apply Kd.R_drew));exact HO357.out) hb);have n2_ := Aside0.mk (below_step (bl_) hb);clear HO353;clear HO357;clear HB;have HO353 := n0_;have HO357 := n1_;have HB := n2_;clear n0_ n1_ n2_;(try clear hb);(try clear hb2);(try clear hk);(try clear hi)))
   go_ret
   exact ⟨by first|rfl|(simp [errW_none,errW_some] <;> rfl)|(simp [*,errW_none,errW_some] <;> rfl),bl_⟩

/-- THE ONE PURE STATEMENT of batonlaw03_SnappyPacks: yours. -/
def batonlaw03_SnappyPacks.Pure : Prop := ∀ (a0 : ByteArray) (a1 : Int), a0.size ≤ 140737488351232 → (Lit.int .i64 a1).wf = true → ∃ k, batonlaw03_SnappyPacks.f k a0 a1 = some true
theorem batonlaw03_SnappyPacks.walk (P : batonlaw03_SnappyPacks.Pure) (a0 : ByteArray) (a1 : Int) (w : World) (w0 : a0.size ≤ 140737488351232) (w1 : (Lit.int .i64 a1).wf = true) :
  Calls Try.prog 5 #[.string a0,.int .i64 a1] w fun e w'=>e = .returned (.bool true) ∧ Below w.heap.size w w' := by
 obtain ⟨k,h⟩ := P a0 a1 w0 w1
 refine (batonlaw03_SnappyPacks.calls k a0 a1 true w h).mono ?_
 rintro e w' ⟨rfl,hd⟩
 exact ⟨rfl,hd⟩

end Go.Proofs.Ythcjcmgdblhhfaa.PU

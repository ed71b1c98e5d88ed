/- The machine side of these statements: what each Go function computes as a plain function, and that its call computes just that. Written by a program of mine (wip/drive.py). No conditions. -/
import Derived.Test.YthcjcmgdblhhfaaPVx0
import Derived.Test.YthcjcmgdblhhfaaPVx39
namespace Go.Proofs.Ythcjcmgdblhhfaa.PV
open Go.RowKit Go.Proofs.YthcjcmgdblhhfaaW.PrintWords Go.Proofs.YthcjcmgdblhhfaaW.PrintLast Go.Proofs.YthcjcmgdblhhfaaW.PrintMore
attribute [local go_sem] max2_int min2_int max_two min_two max_three min_three max_four min_four   -- for this text's walks alone
set_option linter.unusedVariables false
set_option linter.unusedSimpArgs false

/-! ### batonref03_element: function 49 -/
def batonref03_element.j0 : Nat → ByteArray → Int → Bool → Option (Bool × ByteArray × Int × Int × Int)
 | 0,_,_,_=>none
 | k + 1,x0,x4,x38=>if x38 = true then (if (Int.tmod x4 4) = 3 then (if (x0.size : Int) < 5 then (some (false,(⟨#[]⟩ : ByteArray),0,0,(-1))) else (if 1 ≤ 5 then (if 5 ≤ (x0.size : Int) then ((batonref03_low.f k (x0.extract 1 5)).bind fun t486=>(some (true,(⟨#[]⟩ : ByteArray),t486,wrap64 ((wrap64 (Int.tdiv x4 4)) + 1),5))) else (none)) else (none))) else (if (x0.size : Int) < 3 then (some (false,(⟨#[]⟩ : ByteArray),0,0,(-1))) else (if 1 ≤ 3 then (if 3 ≤ (x0.size : Int) then ((batonref03_low.f k (x0.extract 1 3)).bind fun t487=>(some (true,(⟨#[]⟩ : ByteArray),t487,wrap64 ((wrap64 (Int.tdiv x4 4)) + 1),3))) else (none)) else (none)))) else (if (wrap64 ((wrap64 (Int.tdiv x4 4)) + 1)) > 60 then (if (x0.size : Int) < (wrap64 (1 + (wrap64 ((wrap64 ((wrap64 (Int.tdiv x4 4)) + 1)) - 60)))) then (some (false,(⟨#[]⟩ : ByteArray),0,0,(-1))) else (if 1 ≤ (wrap64 (1 + (wrap64 ((wrap64 ((wrap64 (Int.tdiv x4 4)) + 1)) - 60)))) then (if (wrap64 (1 + (wrap64 ((wrap64 ((wrap64 (Int.tdiv x4 4)) + 1)) - 60)))) ≤ (x0.size : Int) then ((batonref03_low.f k (x0.extract 1 ((wrap64 (1 + (wrap64 ((wrap64 ((wrap64 (Int.tdiv x4 4)) + 1)) - 60)))) : Int).toNat)).bind fun t488=>(if (wrap64 ((x0.size : Int) - (wrap64 (1 + (wrap64 ((wrap64 ((wrap64 (Int.tdiv x4 4)) + 1)) - 60)))))) < (wrap64 (t488 + 1)) then (some (false,(⟨#[]⟩ : ByteArray),0,0,(-1))) else (if 0 ≤ (wrap64 (1 + (wrap64 ((wrap64 ((wrap64 (Int.tdiv x4 4)) + 1)) - 60)))) then (if (wrap64 (1 + (wrap64 ((wrap64 ((wrap64 (Int.tdiv x4 4)) + 1)) - 60)))) ≤ (wrap64 ((wrap64 (1 + (wrap64 ((wrap64 ((wrap64 (Int.tdiv x4 4)) + 1)) - 60)))) + (wrap64 (t488 + 1)))) then (if (wrap64 ((wrap64 (1 + (wrap64 ((wrap64 ((wrap64 (Int.tdiv x4 4)) + 1)) - 60)))) + (wrap64 (t488 + 1)))) ≤ (x0.size : Int) then (some (false,x0.extract ((wrap64 (1 + (wrap64 ((wrap64 ((wrap64 (Int.tdiv x4 4)) + 1)) - 60)))) : Int).toNat ((wrap64 ((wrap64 (1 + (wrap64 ((wrap64 ((wrap64 (Int.tdiv x4 4)) + 1)) - 60)))) + (wrap64 (t488 + 1)))) : Int).toNat,0,0,wrap64 ((wrap64 (1 + (wrap64 ((wrap64 ((wrap64 (Int.tdiv x4 4)) + 1)) - 60)))) + (wrap64 (t488 + 1))))) else (none)) else (none)) else (none)))) else (none)) else (none))) else (if (wrap64 ((x0.size : Int) - 1)) < (wrap64 ((wrap64 (Int.tdiv x4 4)) + 1)) then (some (false,(⟨#[]⟩ : ByteArray),0,0,(-1))) else (if 1 ≤ (wrap64 (1 + (wrap64 ((wrap64 (Int.tdiv x4 4)) + 1)))) then (if (wrap64 (1 + (wrap64 ((wrap64 (Int.tdiv x4 4)) + 1)))) ≤ (x0.size : Int) then (some (false,x0.extract 1 ((wrap64 (1 + (wrap64 ((wrap64 (Int.tdiv x4 4)) + 1)))) : Int).toNat,0,0,wrap64 (1 + (wrap64 ((wrap64 (Int.tdiv x4 4)) + 1))))) else (none)) else (none))))
def batonref03_element.f (k : Nat) (a0 : ByteArray) : Option (Bool × ByteArray × Int × Int × Int) := if 0 < (a0.size : Int) then (if (Int.tmod (wrap64 (bt a0 0)) 4) = 1 then (if (a0.size : Int) < 2 then (some (false, (⟨#[]⟩ : ByteArray), 0, 0, (-1))) else (if 1 < (a0.size : Int) then (some (true, (⟨#[]⟩ : ByteArray), wrap64 ((wrap64 ((wrap64 (Int.tdiv (wrap64 (bt a0 0)) 32)) * 256)) + (wrap64 (bt a0 1))), wrap64 (4 + (Int.tmod (wrap64 (Int.tdiv (wrap64 (bt a0 0)) 4)) 8)), 2)) else (none))) else (if (Int.tmod (wrap64 (bt a0 0)) 4) = 2 then (batonref03_element.j0 k a0 (wrap64 (bt a0 0)) true) else (batonref03_element.j0 k a0 (wrap64 (bt a0 0)) ((Int.tmod (wrap64 (bt a0 0)) 4) == 3)))) else (none)
theorem batonref03_element.mono_l : ∀ k, (∀ y0 y1 y2, LeO (batonref03_element.j0 k y0 y1 y2) (batonref03_element.j0 (k + 1) y0 y1 y2))
 | 0=>fun _ _ _ r h=>by simp [batonref03_element.j0] at h
 | k + 1=>by
  have ih0 := batonref03_element.mono_l k
  ·intro y0 y1 y2
   unfold batonref03_element.j0
   repeat' first
   | (with_reducible exact ih0 _ _ _)
   | (with_reducible exact batonref03_low.mono _ _)
   | (with_reducible exact LeO.refl _)
   | (with_reducible exact LeO.none _)
   | (with_reducible refine LeO.ite ?_ ?_)
   | (with_reducible refine LeO.bind ?_ (fun _=>?_))
   | exact ih0 _ _ _
   | exact batonref03_low.mono _ _
   | exact LeO.none _
   | refine LeO.ite ?_ ?_
   | refine LeO.bind ?_ (fun _=>?_)
theorem batonref03_element.mono : ∀ a0 k, LeO (batonref03_element.f k a0) (batonref03_element.f (k + 1) a0) := by
 intro a0 k
 have ih0 := batonref03_element.mono_l k
 unfold batonref03_element.f
 repeat' first
   | (with_reducible exact ih0 _ _ _)
   | (with_reducible exact batonref03_low.mono _ _)
   | (with_reducible exact LeO.refl _)
   | (with_reducible exact LeO.none _)
   | (with_reducible refine LeO.ite ?_ ?_)
   | (with_reducible refine LeO.bind ?_ (fun _=>?_))
   | exact ih0 _ _ _
   | exact batonref03_low.mono _ _
   | exact LeO.none _
   | refine LeO.ite ?_ ?_
   | refine LeO.bind ?_ (fun _=>?_)
set_option maxHeartbeats 8000000 in
set_option maxRecDepth 100000 in
theorem batonref03_element.calls (k : Nat) (a0 : ByteArray) (r1 : Bool) (r2 : ByteArray) (r3 : Int) (r4 : Int) (r5 : Int) (w : World) (h : batonref03_element.f k a0 = some (r1, r2, r3, r4, r5)) :
  Calls Try.prog 49 #[.string a0] w fun e w'=>e = .returned (.tuple #[.agg #[.bool r1,.string r2,.int .i64 r3,.int .i64 r4],.int .i64 r5]) ∧ Below w.heap.size w w' := by
 have hu72 := Try.underlying72
 have HB := Aside0.mk (Below.refl w.heap.size w)
 have H : (if 0 < (a0.size : Int) then (if (Int.tmod (wrap64 (bt a0 0)) 4) = 1 then (if (a0.size : Int) < 2 then (some (false,(⟨#[]⟩ : ByteArray),0,0,(-1))) else (if 1 < (a0.size : Int) then (some (true,(⟨#[]⟩ : ByteArray),wrap64 ((wrap64 ((wrap64 (Int.tdiv (wrap64 (bt a0 0)) 32)) * 256)) + (wrap64 (bt a0 1))),wrap64 (4 + (Int.tmod (wrap64 (Int.tdiv (wrap64 (bt a0 0)) 4)) 8)),2)) else (none))) else (if (Int.tmod (wrap64 (bt a0 0)) 4) = 2 then (batonref03_element.j0 k a0 (wrap64 (bt a0 0)) true) else (batonref03_element.j0 k a0 (wrap64 (bt a0 0)) ((Int.tmod (wrap64 (bt a0 0)) 4) == 3)))) else (none)) = some (r1,r2,r3,r4,r5) := h
 clear h
 by_cases c2 : 0 < (a0.size : Int)
 ·rw [if_pos c2] at H
  have c2b0 : decide (0 < (a0.size : Int)) = true := decide_eq_true c2
  have c2b1 : decide (0 < a0.size) = true := decide_eq_true q75_
  clear c2
  by_cases c4 : (Int.tmod (wrap64 (bt a0 0)) 4) = 1
  ·rw [if_pos c4] at H
   have c4b0 : ((Int.tmod (wrap64 (bt a0 0)) 4) == 1) = true := beq_iff_eq.mpr c4
   have c4b1 : ((Int.tmod (wrap64 (bt a0 0)) 4) != 1) = false := bne_eq_false_iff_eq.mpr c4
   clear c4
   by_cases c5 : (a0.size : Int) < 2
   ·rw [if_pos c5] at H
    have c5b0 : decide ((a0.size : Int) < 2) = true := decide_eq_true c5
    have c5b1 : decide (a0.size < 2) = true := decide_eq_true q75_
    clear c5
    simp only [Option.some.injEq,Prod.mk.injEq] at H
    obtain ⟨rfl,rfl,rfl,rfl,rfl⟩ := H
    go_enter Try.func49,Try.ntmps49
    go_wp2_with (first|((with_reducible refine gate_dst (N := 2) rfl ?_);refine box_event ?hg (N := 2) ?hd (cs := #[.bool false,.string (⟨#[]⟩ : ByteArray),.int .i64 0,.int .i64 0]) (t := 72) ?hr ?_;(case hd=>rfl);(case hg=>rfl);(case hr=>first|(go_simp;done)|(go_simp;rfl)|(go_simp;simp [my_u8w];done));intro gb485 hg w6 hbox hb;have n0_ := Aside0.mk (below_step (bl_) hb);have n1_ := Aside0.mk (hbox);have n2_ := Aside0.mk ((by rw [hg];exact (below_size (bl_)) : w.heap.size ≤ gb485));have n3_ := Aside0.mk ((by rw [hg];exact (below_size (bl_)) : w.heap.size ≤ gb485));clear HB;have HB := n0_;have BK485 := n1_;have GW485 := n2_;have GE485 := n3_;clear n0_ n1_ n2_ n3_;clear hb hbox hg;have p3 : 0 ≤ (0 : Int) := q75_;have q3 : 0 < a0.size := (by have : (0 : Int) < (a0.size : Int) := of_decide_eq_true q3_;omega);have hx3 : ∀ h : 0 < a0.size,((a0[0]'h).toNat : Int) = bt a0 0 := bt_at a0 0;clear p3;have qi3 : (0 < (a0.size : Int)) = True := eq_true (of_decide_eq_true q3_);replace q3 := eq_true q3;have hcz7_0 : w6.cell? ⟨gb485,0,none⟩ = some (.bool false) := (blk_cell BK485.out 0).trans rfl;have hcz7_1 : w6.cell? ⟨gb485,1,none⟩ = some (.string (⟨#[]⟩ : ByteArray)) := (blk_cell BK485.out 1).trans rfl;have hcz7_2 : w6.cell? ⟨gb485,2,none⟩ = some (.int .i64 0) := (blk_cell BK485.out 2).trans rfl;have hcz7_3 : w6.cell? ⟨gb485,3,none⟩ = some (.int .i64 0) := (blk_cell BK485.out 3).trans rfl;have hfz7_0 := blk_frozen BK485.out 0;have hfz7_1 := blk_frozen BK485.out 1;have hfz7_2 := blk_frozen BK485.out 2;have hfz7_3 := blk_frozen BK485.out 3))
    refine bodyPost_ret (results_ct rfl _ _ gb485 72 #[.bool false,.string (⟨#[]⟩ : ByteArray),.int .i64 0,.int .i64 0] (0,0) _ rfl q10_ Try.underlying72 rfl q9_) rfl ?_
    exact ⟨q1_,q23_⟩
   ·rw [if_neg c5] at H
    have c5b0 : decide ((a0.size : Int) < 2) = false := decide_eq_false c5
    have c5b1 : decide (a0.size < 2) = false := decide_eq_false q75_
    clear c5
    by_cases c8 : 1 < (a0.size : Int)
    ·rw [if_pos c8] at H
     have c8b0 : decide (1 < (a0.size : Int)) = true := decide_eq_true c8
     have c8b1 : decide (1 < a0.size) = true := decide_eq_true q75_
     clear c8
     simp only [Option.some.injEq,Prod.mk.injEq] at H
     obtain ⟨rfl,rfl,rfl,rfl,rfl⟩ := H
     go_enter Try.func49,Try.ntmps49
     go_wp2_with (first|((with_reducible refine gate_dst (N := 2) rfl ?_);refine box_event ?hg (N := 2) ?hd (cs := #[.bool false,.string (⟨#[]⟩ : ByteArray),.int .i64 0,.int .i64 0]) (t := 72) ?hr ?_;(case hd=>rfl);(case hg=>rfl);(case hr=>first|(go_simp;done)|(go_simp;rfl)|(go_simp;simp [my_u8w];done));intro gb485 hg w10 hbox hb;have n0_ := Aside0.mk (below_step (bl_) hb);have n1_ := Aside0.mk (hbox);have n2_ := Aside0.mk ((by rw [hg];exact (below_size (bl_)) : w.heap.size ≤ gb485));have n3_ := Aside0.mk ((by rw [hg];exact (below_size (bl_)) : w.heap.size ≤ gb485));clear HB;have HB := n0_;have BK485 := n1_;have GW485 := n2_;have GE485 := n3_;clear n0_ n1_ n2_ n3_;clear hb hbox hg;have p3 : 0 ≤ (0 : Int) := q75_;have q3 : 0 < a0.size := (by have : (0 : Int) < (a0.size : Int) := of_decide_eq_true q3_;omega);have hx3 : ∀ h : 0 < a0.size,((a0[0]'h).toNat : Int) = bt a0 0 := bt_at a0 0;clear p3;have qi3 : (0 < (a0.size : Int)) = True := eq_true (of_decide_eq_true q3_);replace q3 := eq_true q3;have p9 : 0 ≤ (1 : Int) := q75_;have q9 : 1 < a0.size := (by have : (1 : Int) < (a0.size : Int) := of_decide_eq_true q3_;omega);have hx9 : ∀ h : 1 < a0.size,((a0[1]'h).toNat : Int) = bt a0 1 := bt_at a0 1;clear p9;have qi9 : (1 < (a0.size : Int)) = True := eq_true (of_decide_eq_true q3_);replace q9 := eq_true q9;have hcz11_0 : w10.cell? ⟨gb485,0,none⟩ = some (.bool false) := (blk_cell BK485.out 0).trans rfl;have hcz11_1 : w10.cell? ⟨gb485,1,none⟩ = some (.string (⟨#[]⟩ : ByteArray)) := (blk_cell BK485.out 1).trans rfl;have hcz11_2 : w10.cell? ⟨gb485,2,none⟩ = some (.int .i64 0) := (blk_cell BK485.out 2).trans rfl;have hcz11_3 : w10.cell? ⟨gb485,3,none⟩ = some (.int .i64 0) := (blk_cell BK485.out 3).trans rfl;have hfz11_0 := blk_frozen BK485.out 0;have hfz11_1 := blk_frozen BK485.out 1;have hfz11_2 := blk_frozen BK485.out 2;have hfz11_3 := blk_frozen BK485.out 3))
     refine bodyPost_ret (results_ct rfl _ _ gb485 72 #[.bool true,.string (⟨#[]⟩ : ByteArray),.int .i64 (wrap64 ((wrap64 ((wrap64 (Int.tdiv (wrap64 (bt a0 0)) 32)) * 256)) + (wrap64 (bt a0 1)))),.int .i64 (wrap64 (4 + (Int.tmod (wrap64 (Int.tdiv (wrap64 (bt a0 0)) 4)) 8)))] (0,0) _ rfl (by (with_reducible repeat (first|refine blk_drewN ?_ _|refine blk_drew ?_|refine blk_alloc ?_ _));refine blk_put (cs := #[.bool true,.string (⟨#[]⟩ : ByteArray),.int .i64 (wrap64 ((wrap64 ((wrap64 (Int.tdiv (wrap64 (bt a0 0)) 32)) * 256)) + (wrap64 (bt a0 1)))),.int .i64 0]) ?_ 3 _ rfl;(with_reducible repeat (first|refine blk_drewN ?_ _|refine blk_drew ?_|refine blk_alloc ?_ _));refine blk_put (cs := #[.bool true,.string (⟨#[]⟩ : ByteArray),.int .i64 0,.int .i64 0]) ?_ 2 _ rfl;(with_reducible repeat (first|refine blk_drewN ?_ _|refine blk_drew ?_|refine blk_alloc ?_ _));refine blk_put (cs := #[.bool true,.string (⟨#[]⟩ : ByteArray),.int .i64 0,.int .i64 0]) ?_ 1 _ rfl;(with_reducible repeat (first|refine blk_drewN ?_ _|refine blk_drew ?_|refine blk_alloc ?_ _));refine blk_put (cs := #[.bool false,.string (⟨#[]⟩ : ByteArray),.int .i64 0,.int .i64 0]) ?_ 0 _ rfl;(with_reducible repeat (first|refine blk_drewN ?_ _|refine blk_drew ?_|refine blk_alloc ?_ _));exact BK485.out) Try.underlying72 rfl q9_) rfl ?_
     exact ⟨q1_,q23_⟩
    ·rw [if_neg c8] at H
     exact absurd H (by simp)
  ·rw [if_neg c4] at H
   have c4b0 : ((Int.tmod (wrap64 (bt a0 0)) 4) == 1) = false := beq_eq_false_iff_ne.mpr c4
   have c4b1 : ((Int.tmod (wrap64 (bt a0 0)) 4) != 1) = true := bne_iff_ne.mpr c4
   have HC12 := Aside0.mk H
   clear H
   go_enter Try.func49,Try.ntmps49
   go_upto_region 6 with (first|((with_reducible refine gate_dst (N := 2) rfl ?_);refine box_event ?hg (N := 2) ?hd (cs := #[.bool false,.string (⟨#[]⟩ : ByteArray),.int .i64 0,.int .i64 0]) (t := 72) ?hr ?_;(case hd=>rfl);(case hg=>rfl);(case hr=>first|(go_simp;done)|(go_simp;rfl)|(go_simp;simp [my_u8w];done));intro gb485 hg w13 hbox hb;have n0_ := Aside0.mk (below_step (bl_) hb);have n1_ := Aside0.mk (hbox);have n2_ := Aside0.mk ((by rw [hg];exact (below_size (bl_)) : w.heap.size ≤ gb485));have n3_ := Aside0.mk ((by rw [hg];exact (below_size (bl_)) : w.heap.size ≤ gb485));clear HB;have HB := n0_;have BK485 := n1_;have GW485 := n2_;have GE485 := n3_;clear n0_ n1_ n2_ n3_;clear hb hbox hg;have p3 : 0 ≤ (0 : Int) := q75_;have q3 : 0 < a0.size := (by have : (0 : Int) < (a0.size : Int) := of_decide_eq_true q3_;omega);have hx3 : ∀ h : 0 < a0.size,((a0[0]'h).toNat : Int) = bt a0 0 := bt_at a0 0;clear p3;have qi3 : (0 < (a0.size : Int)) = True := eq_true (of_decide_eq_true q3_);replace q3 := eq_true q3))
   (try simp only [Act.put,List.setIfInBounds_toArray,List.set_cons_zero,List.set_cons_succ])
   go_cut [38] (fun v38 wc=>∃ (kq : Nat) (x38_11 : Bool),v38 = .bool x38_11 ∧ Aside0 (batonref03_element.j0 kq a0 (wrap64 (bt a0 0)) x38_11 = some (r1,r2,r3,r4,r5)) ∧ Aside0 (kq ≤ k) ∧ Aside0 (wc.heap[gb485]? = some (.cells #[.bool false,.string (⟨#[]⟩ : ByteArray),.int .i64 0,.int .i64 0] 72 (0,0))) ∧ Aside0 (Below w.heap.size w wc))
   case first =>
    have H := HC12.out
    clear HC12
    by_cases c14 : (Int.tmod (wrap64 (bt a0 0)) 4) = 2
    ·rw [if_pos c14] at H
     have c14b0 : ((Int.tmod (wrap64 (bt a0 0)) 4) == 2) = true := beq_iff_eq.mpr c14
     have c14b1 : ((Int.tmod (wrap64 (bt a0 0)) 4) != 2) = false := bne_eq_false_iff_eq.mpr c14
     clear c14
     (first|rw [c14b0]|(simp only [i64_w,i32_w];rw [c14b0])|skip)
     have H' := Aside0.mk H
     clear H
     go_wp2
     go_meet
     case rel=>exact ⟨_,(true),q4_,H',⟨q50_⟩,⟨q73_⟩,⟨q23_⟩⟩
    ·rw [if_neg c14] at H
     have c14b0 : ((Int.tmod (wrap64 (bt a0 0)) 4) == 2) = false := beq_eq_false_iff_ne.mpr c14
     have c14b1 : ((Int.tmod (wrap64 (bt a0 0)) 4) != 2) = true := bne_iff_ne.mpr c14
     (first|rw [c14b0]|(simp only [i64_w,i32_w];rw [c14b0])|skip)
     have H' := Aside0.mk H
     clear H
     go_wp2
     go_meet
     case rel=>exact ⟨_,(((Int.tmod (wrap64 (bt a0 0)) 4) == 3)),q4_,H',⟨q50_⟩,⟨q73_⟩,⟨q23_⟩⟩
   case rest =>
    clear HC12
    try clear c1
    try clear c2
    try clear c2b0
    try clear c2b1
    try clear p2
    try clear p3
    try clear q3
    try clear hx3
    try clear qi3
    try clear c4
    try clear c4b0
    try clear c4b1
    try clear c5
    try clear c5b0
    try clear c5b1
    try clear p6
    try clear c8
    try clear c8b0
    try clear c8b1
    try clear p9
    try clear q9
    try clear hx9
    try clear qi9
    try clear c14
    try clear c14b0
    try clear c14b1
    try clear hcz11_0
    try clear hcz11_1
    try clear hcz11_2
    try clear hcz11_3
    try clear hcz7_0
    try clear hcz7_1
    try clear hcz7_2
    try clear hcz7_3
    try clear hfz11_0
    try clear hfz11_1
    try clear hfz11_2
    try clear hfz11_3
    try clear hfz7_0
    try clear hfz7_1
    try clear hfz7_2
    try clear hfz7_3
    try clear p3
    try clear p9
    try clear q3
    try clear q9
    obtain ⟨kq,x38_11,rfl,HA,HJ11,BK485,HB⟩ := hcut
    cases kq with
    | zero=>exact absurd HA.out (by simp [batonref03_element.j0])
    | succ kj11 =>
     have H := HA.out
     clear HA
     simp only [batonref03_element.j0] at H
     by_cases c15 : x38_11 = true
     ·subst c15
      have H1 : (if (Int.tmod (wrap64 (bt a0 0)) 4) = 3 then (if (a0.size : Int) < 5 then (some (false,(⟨#[]⟩ : ByteArray),0,0,(-1))) else (if 1 ≤ 5 then (if 5 ≤ (a0.size : Int) then ((batonref03_low.f kj11 (a0.extract 1 5)).bind fun t486=>(some (true,(⟨#[]⟩ : ByteArray),t486,wrap64 ((wrap64 (Int.tdiv (wrap64 (bt a0 0)) 4)) + 1),5))) else (none)) else (none))) else (if (a0.size : Int) < 3 then (some (false,(⟨#[]⟩ : ByteArray),0,0,(-1))) else (if 1 ≤ 3 then (if 3 ≤ (a0.size : Int) then ((batonref03_low.f kj11 (a0.extract 1 3)).bind fun t487=>(some (true,(⟨#[]⟩ : ByteArray),t487,wrap64 ((wrap64 (Int.tdiv (wrap64 (bt a0 0)) 4)) + 1),3))) else (none)) else (none)))) = some (r1,r2,r3,r4,r5) := by rw [if_pos rfl] at H;exact H
      clear H
      have H := H1
      clear H1
      by_cases c16 : (Int.tmod (wrap64 (bt a0 0)) 4) = 3
      ·rw [if_pos c16] at H
       have c16b0 : ((Int.tmod (wrap64 (bt a0 0)) 4) == 3) = true := beq_iff_eq.mpr c16
       have c16b1 : ((Int.tmod (wrap64 (bt a0 0)) 4) != 3) = false := bne_eq_false_iff_eq.mpr c16
       clear c16
       by_cases c17 : (a0.size : Int) < 5
       ·rw [if_pos c17] at H
        have c17b0 : decide ((a0.size : Int) < 5) = true := decide_eq_true c17
        have c17b1 : decide (a0.size < 5) = true := decide_eq_true q75_
        clear c17
        simp only [Option.some.injEq,Prod.mk.injEq] at H
        obtain ⟨rfl,rfl,rfl,rfl,rfl⟩ := H
        have hcz18_0 : wc.cell? ⟨gb485,0,none⟩ = some (.bool false) := (blk_cell BK485.out 0).trans rfl
        have hcz18_1 : wc.cell? ⟨gb485,1,none⟩ = some (.string (⟨#[]⟩ : ByteArray)) := (blk_cell BK485.out 1).trans rfl
        have hcz18_2 : wc.cell? ⟨gb485,2,none⟩ = some (.int .i64 0) := (blk_cell BK485.out 2).trans rfl
        have hcz18_3 : wc.cell? ⟨gb485,3,none⟩ = some (.int .i64 0) := (blk_cell BK485.out 3).trans rfl
        have hfz18_0 := blk_frozen BK485.out 0
        have hfz18_1 := blk_frozen BK485.out 1
        have hfz18_2 := blk_frozen BK485.out 2
        have hfz18_3 := blk_frozen BK485.out 3
        go_wp2
        refine bodyPost_ret (results_ct rfl _ _ gb485 72 #[.bool false,.string (⟨#[]⟩ : ByteArray),.int .i64 0,.int .i64 0] (0,0) _ rfl q10_ Try.underlying72 rfl q9_) rfl ?_
        exact ⟨q1_,q23_⟩
       ·rw [if_neg c17] at H
        have c17b0 : decide ((a0.size : Int) < 5) = false := decide_eq_false c17
        have c17b1 : decide (a0.size < 5) = false := decide_eq_false q75_
        clear c17
        by_cases c19 : 1 ≤ 5
        ·rw [if_pos c19] at H
         have c19b0 := eq_true c19
         have c19b1 : decide (1 ≤ 5) = true := decide_eq_true c19
         clear c19
         by_cases c20 : 5 ≤ (a0.size : Int)
         ·rw [if_pos c20] at H
          have c20b0 := eq_true c20
          have c20b1 : decide (5 ≤ (a0.size : Int)) = true := decide_eq_true c20
          clear c20
          replace H := Option.bind_eq_some_iff.mp H
          obtain ⟨t486,A210,H⟩ := H
          replace H : (some (true,(⟨#[]⟩ : ByteArray),t486,wrap64 ((wrap64 (Int.tdiv (wrap64 (bt a0 0)) 4)) + 1),5)) = some (r1,r2,r3,r4,r5) := H
          have A21 := Aside0.mk A210
          clear A210
          simp only [Option.some.injEq,Prod.mk.injEq] at H
          obtain ⟨rfl,rfl,rfl,rfl,rfl⟩ := H
          go_wp2_with (first|((with_reducible refine gate_callee (f := 59) rfl ?_);refine goesL_ (some 55) rfl rfl Try.func59 q9_ rfl #[.string (a0.extract 1 5)] rfl q0_ ?_;(with_reducible refine (batonref03_low.calls kj11 (a0.extract 1 5) t486 _ A21.out).mono ?_);rintro e w' ⟨rfl,⟨nd,rfl⟩⟩;refine ⟨_,rfl,?_⟩;(try (rw [drewN_self wc];generalize hq_ : World.drewN wc _ = wc;have n0_ : Aside0 (wc.heap[gb485]? = some (.cells #[.bool false,.string (⟨#[]⟩ : ByteArray),.int .i64 0,.int .i64 0] 72 (0,0))) := ⟨by rw [← hq_];exact q73_⟩;have n1_ : Aside0 (Below w.heap.size w wc) := ⟨by rw [← hq_];exact q23_⟩;clear BK485 HB hq_;have BK485 := n0_;have HB := n1_;clear n0_ n1_));have hcz22_0 : wc.cell? ⟨gb485,0,none⟩ = some (.bool false) := (blk_cell BK485.out 0).trans rfl;have hcz22_1 : wc.cell? ⟨gb485,1,none⟩ = some (.string (⟨#[]⟩ : ByteArray)) := (blk_cell BK485.out 1).trans rfl;have hcz22_2 : wc.cell? ⟨gb485,2,none⟩ = some (.int .i64 0) := (blk_cell BK485.out 2).trans rfl;have hcz22_3 : wc.cell? ⟨gb485,3,none⟩ = some (.int .i64 0) := (blk_cell BK485.out 3).trans rfl;have hfz22_0 := blk_frozen BK485.out 0;have hfz22_1 := blk_frozen BK485.out 1;have hfz22_2 := blk_frozen BK485.out 2;have hfz22_3 := blk_frozen BK485.out 3))
          refine bodyPost_ret (results_ct rfl _ _ gb485 72 #[.bool true,.string (⟨#[]⟩ : ByteArray),.int .i64 t486,.int .i64 (wrap64 ((wrap64 (Int.tdiv (wrap64 (bt a0 0)) 4)) + 1))] (0,0) _ rfl (by (with_reducible repeat (first|refine blk_drewN ?_ _|refine blk_drew ?_|refine blk_alloc ?_ _));refine blk_put (cs := #[.bool true,.string (⟨#[]⟩ : ByteArray),.int .i64 t486,.int .i64 0]) ?_ 3 _ rfl;(with_reducible repeat (first|refine blk_drewN ?_ _|refine blk_drew ?_|refine blk_alloc ?_ _));refine blk_put (cs := #[.bool true,.string (⟨#[]⟩ : ByteArray),.int .i64 0,.int .i64 0]) ?_ 2 _ rfl;(with_reducible repeat (first|refine blk_drewN ?_ _|refine blk_drew ?_|refine blk_alloc ?_ _));refine blk_put (cs := #[.bool true,.string (⟨#[]⟩ : ByteArray),.int .i64 0,.int .i64 0]) ?_ 1 _ rfl;(with_reducible repeat (first|refine blk_drewN ?_ _|refine blk_drew ?_|refine blk_alloc ?_ _));refine blk_put (cs := #[.bool false,.string (⟨#[]⟩ : ByteArray),.int .i64 0,.int .i64 0]) ?_ 0 _ rfl;(with_reducible repeat (first|refine blk_drewN ?_ _|refine blk_drew ?_|refine blk_alloc ?_ _));exact BK485.out) Try.underlying72 rfl q9_) rfl ?_
          exact ⟨q1_,q23_⟩
         ·rw [if_neg c20] at H
          exact absurd H (by simp)
        ·rw [if_neg c19] at H
         exact absurd H (by simp)
      ·rw [if_neg c16] at H
       have c16b0 : ((Int.tmod (wrap64 (bt a0 0)) 4) == 3) = false := beq_eq_false_iff_ne.mpr c16
       have c16b1 : ((Int.tmod (wrap64 (bt a0 0)) 4) != 3) = true := bne_iff_ne.mpr c16
       by_cases c23 : (a0.size : Int) < 3
       ·rw [if_pos c23] at H
        have c23b0 : decide ((a0.size : Int) < 3) = true := decide_eq_true c23
        have c23b1 : decide (a0.size < 3) = true := decide_eq_true q75_
        clear c23
        simp only [Option.some.injEq,Prod.mk.injEq] at H
        obtain ⟨rfl,rfl,rfl,rfl,rfl⟩ := H
        have hcz24_0 : wc.cell? ⟨gb485,0,none⟩ = some (.bool false) := (blk_cell BK485.out 0).trans rfl
        have hcz24_1 : wc.cell? ⟨gb485,1,none⟩ = some (.string (⟨#[]⟩ : ByteArray)) := (blk_cell BK485.out 1).trans rfl
        have hcz24_2 : wc.cell? ⟨gb485,2,none⟩ = some (.int .i64 0) := (blk_cell BK485.out 2).trans rfl
        have hcz24_3 : wc.cell? ⟨gb485,3,none⟩ = some (.int .i64 0) := (blk_cell BK485.out 3).trans rfl
        have hfz24_0 := blk_frozen BK485.out 0
        have hfz24_1 := blk_frozen BK485.out 1
        have hfz24_2 := blk_frozen BK485.out 2
        have hfz24_3 := blk_frozen BK485.out 3
        go_wp2
        refine bodyPost_ret (results_ct rfl _ _ gb485 72 #[.bool false,.string (⟨#[]⟩ : ByteArray),.int .i64 0,.int .i64 0] (0,0) _ rfl q10_ Try.underlying72 rfl q9_) rfl ?_
        exact ⟨q1_,q23_⟩
       ·rw [if_neg c23] at H
        have c23b0 : decide ((a0.size : Int) < 3) = false := decide_eq_false c23
        have c23b1 : decide (a0.size < 3) = false := decide_eq_false q75_
        clear c23
        by_cases c25 : 1 ≤ 3
        ·rw [if_pos c25] at H
         have c25b0 := eq_true c25
         have c25b1 : decide (1 ≤ 3) = true := decide_eq_true c25
         clear c25
         by_cases c26 : 3 ≤ (a0.size : Int)
         ·rw [if_pos c26] at H
          have c26b0 := eq_true c26
          have c26b1 : decide (3 ≤ (a0.size : Int)) = true := decide_eq_true c26
          clear c26
          replace H := Option.bind_eq_some_iff.mp H
          obtain ⟨t487,A270,H⟩ := H
          replace H : (some (true,(⟨#[]⟩ : ByteArray),t487,wrap64 ((wrap64 (Int.tdiv (wrap64 (bt a0 0)) 4)) + 1),3)) = some (r1,r2,r3,r4,r5) := H
          have A27 := Aside0.mk A270
          clear A270
          simp only [Option.some.injEq,Prod.mk.injEq] at H
          obtain ⟨rfl,rfl,rfl,rfl,rfl⟩ := H
          go_wp2_with (first|((with_reducible refine gate_callee (f := 59) rfl ?_);refine goesL_ (some 55) rfl rfl Try.func59 q9_ rfl #[.string (a0.extract 1 3)] rfl q0_ ?_;(with_reducible refine (batonref03_low.calls kj11 (a0.extract 1 3) t487 _ A27.out).mono ?_);rintro e w' ⟨rfl,⟨nd,rfl⟩⟩;refine ⟨_,rfl,?_⟩;(try (rw [drewN_self wc];generalize hq_ : World.drewN wc _ = wc;have n0_ : Aside0 (wc.heap[gb485]? = some (.cells #[.bool false,.string (⟨#[]⟩ : ByteArray),.int .i64 0,.int .i64 0] 72 (0,0))) := ⟨by rw [← hq_];exact q73_⟩;have n1_ : Aside0 (Below w.heap.size w wc) := ⟨by rw [← hq_];exact q23_⟩;clear BK485 HB hq_;have BK485 := n0_;have HB := n1_;clear n0_ n1_));have hcz28_0 : wc.cell? ⟨gb485,0,none⟩ = some (.bool false) := (blk_cell BK485.out 0).trans rfl;have hcz28_1 : wc.cell? ⟨gb485,1,none⟩ = some (.string (⟨#[]⟩ : ByteArray)) := (blk_cell BK485.out 1).trans rfl;have hcz28_2 : wc.cell? ⟨gb485,2,none⟩ = some (.int .i64 0) := (blk_cell BK485.out 2).trans rfl;have hcz28_3 : wc.cell? ⟨gb485,3,none⟩ = some (.int .i64 0) := (blk_cell BK485.out 3).trans rfl;have hfz28_0 := blk_frozen BK485.out 0;have hfz28_1 := blk_frozen BK485.out 1;have hfz28_2 := blk_frozen BK485.out 2;have hfz28_3 := blk_frozen BK485.out 3))
          refine bodyPost_ret (results_ct rfl _ _ gb485 72 #[.bool true,.string (⟨#[]⟩ : ByteArray),.int .i64 t487,.int .i64 (wrap64 ((wrap64 (Int.tdiv (wrap64 (bt a0 0)) 4)) + 1))] (0,0) _ rfl (by (with_reducible repeat (first|refine blk_drewN ?_ _|refine blk_drew ?_|refine blk_alloc ?_ _));refine blk_put (cs := #[.bool true,.string (⟨#[]⟩ : ByteArray),.int .i64 t487,.int .i64 0]) ?_ 3 _ rfl;(with_reducible repeat (first|refine blk_drewN ?_ _|refine blk_drew ?_|refine blk_alloc ?_ _));refine blk_put (cs := #[.bool true,.string (⟨#[]⟩ : ByteArray),.int .i64 0,.int .i64 0]) ?_ 2 _ rfl;(with_reducible repeat (first|refine blk_drewN ?_ _|refine blk_drew ?_|refine blk_alloc ?_ _));refine blk_put (cs := #[.bool true,.string (⟨#[]⟩ : ByteArray),.int .i64 0,.int .i64 0]) ?_ 1 _ rfl;(with_reducible repeat (first|refine blk_drewN ?_ _|refine blk_drew ?_|refine blk_alloc ?_ _));refine blk_put (cs := #[.bool false,.string (⟨#[]⟩ : ByteArray),.int .i64 0,.int .i64 0]) ?_ 0 _ rfl;(with_reducible repeat (first|refine blk_drewN ?_ _|refine blk_drew ?_|refine blk_alloc ?_ _));exact BK485.out) Try.underlying72 rfl q9_) rfl ?_
          exact ⟨q1_,q23_⟩
         ·rw [if_neg c26] at H
          exact absurd H (by simp)
        ·rw [if_neg c25] at H
         exact absurd H (by simp)
     ·replace c15 := Bool.eq_false_iff.mpr c15
      subst c15
      have H1 : (if (wrap64 ((wrap64 (Int.tdiv (wrap64 (bt a0 0)) 4)) + 1)) > 60 then (if (a0.size : Int) < (wrap64 (1 + (wrap64 ((wrap64 ((wrap64 (Int.tdiv (wrap64 (bt a0 0)) 4)) + 1)) - 60)))) then (some (false,(⟨#[]⟩ : ByteArray),0,0,(-1))) else (if 1 ≤ (wrap64 (1 + (wrap64 ((wrap64 ((wrap64 (Int.tdiv (wrap64 (bt a0 0)) 4)) + 1)) - 60)))) then (if (wrap64 (1 + (wrap64 ((wrap64 ((wrap64 (Int.tdiv (wrap64 (bt a0 0)) 4)) + 1)) - 60)))) ≤ (a0.size : Int) then ((batonref03_low.f kj11 (a0.extract 1 ((wrap64 (1 + (wrap64 ((wrap64 ((wrap64 (Int.tdiv (wrap64 (bt a0 0)) 4)) + 1)) - 60)))) : Int).toNat)).bind fun t488=>(if (wrap64 ((a0.size : Int) - (wrap64 (1 + (wrap64 ((wrap64 ((wrap64 (Int.tdiv (wrap64 (bt a0 0)) 4)) + 1)) - 60)))))) < (wrap64 (t488 + 1)) then (some (false,(⟨#[]⟩ : ByteArray),0,0,(-1))) else (if 0 ≤ (wrap64 (1 + (wrap64 ((wrap64 ((wrap64 (Int.tdiv (wrap64 (bt a0 0)) 4)) + 1)) - 60)))) then (if (wrap64 (1 + (wrap64 ((wrap64 ((wrap64 (Int.tdiv (wrap64 (bt a0 0)) 4)) + 1)) - 60)))) ≤ (wrap64 ((wrap64 (1 + (wrap64 ((wrap64 ((wrap64 (Int.tdiv (wrap64 (bt a0 0)) 4)) + 1)) - 60)))) + (wrap64 (t488 + 1)))) then (if (wrap64 ((wrap64 (1 + (wrap64 ((wrap64 ((wrap64 (Int.tdiv (wrap64 (bt a0 0)) 4)) + 1)) - 60)))) + (wrap64 (t488 + 1)))) ≤ (a0.size : Int) then (some (false,a0.extract ((wrap64 (1 + (wrap64 ((wrap64 ((wrap64 (Int.tdiv (wrap64 (bt a0 0)) 4)) + 1)) - 60)))) : Int).toNat ((wrap64 ((wrap64 (1 + (wrap64 ((wrap64 ((wrap64 (Int.tdiv (wrap64 (bt a0 0)) 4)) + 1)) - 60)))) + (wrap64 (t488 + 1)))) : Int).toNat,0,0,wrap64 ((wrap64 (1 + (wrap64 ((wrap64 ((wrap64 (Int.tdiv (wrap64 (bt a0 0)) 4)) + 1)) - 60)))) + (wrap64 (t488 + 1))))) else (none)) else (none)) else (none)))) else (none)) else (none))) else (if (wrap64 ((a0.size : Int) - 1)) < (wrap64 ((wrap64 (Int.tdiv (wrap64 (bt a0 0)) 4)) + 1)) then (some (false,(⟨#[]⟩ : ByteArray),0,0,(-1))) else (if 1 ≤ (wrap64 (1 + (wrap64 ((wrap64 (Int.tdiv (wrap64 (bt a0 0)) 4)) + 1)))) then (if (wrap64 (1 + (wrap64 ((wrap64 (Int.tdiv (wrap64 (bt a0 0)) 4)) + 1)))) ≤ (a0.size : Int) then (some (false,a0.extract 1 ((wrap64 (1 + (wrap64 ((wrap64 (Int.tdiv (wrap64 (bt a0 0)) 4)) + 1)))) : Int).toNat,0,0,wrap64 (1 + (wrap64 ((wrap64 (Int.tdiv (wrap64 (bt a0 0)) 4)) + 1))))) else (none)) else (none)))) = some (r1,r2,r3,r4,r5) := by rw [if_neg (show ¬ (false = true) by decide)] at H;exact H
      clear H
      have H := H1
      clear H1
      by_cases c29 : (wrap64 ((wrap64 (Int.tdiv (wrap64 (bt a0 0)) 4)) + 1)) > 60
      ·rw [if_pos c29] at H
       have c29b0 : decide (60 < (wrap64 ((wrap64 (Int.tdiv (wrap64 (bt a0 0)) 4)) + 1))) = true := decide_eq_true c29
       clear c29
       by_cases c30 : (a0.size : Int) < (wrap64 (1 + (wrap64 ((wrap64 ((wrap64 (Int.tdiv (wrap64 (bt a0 0)) 4)) + 1)) - 60))))
       ·rw [if_pos c30] at H
        have c30b0 : decide ((a0.size : Int) < (wrap64 (1 + (wrap64 ((wrap64 ((wrap64 (Int.tdiv (wrap64 (bt a0 0)) 4)) + 1)) - 60))))) = true := decide_eq_true c30
        clear c30
        simp only [Option.some.injEq,Prod.mk.injEq] at H
        obtain ⟨rfl,rfl,rfl,rfl,rfl⟩ := H
        have hcz31_0 : wc.cell? ⟨gb485,0,none⟩ = some (.bool false) := (blk_cell BK485.out 0).trans rfl
        have hcz31_1 : wc.cell? ⟨gb485,1,none⟩ = some (.string (⟨#[]⟩ : ByteArray)) := (blk_cell BK485.out 1).trans rfl
        have hcz31_2 : wc.cell? ⟨gb485,2,none⟩ = some (.int .i64 0) := (blk_cell BK485.out 2).trans rfl
        have hcz31_3 : wc.cell? ⟨gb485,3,none⟩ = some (.int .i64 0) := (blk_cell BK485.out 3).trans rfl
        have hfz31_0 := blk_frozen BK485.out 0
        have hfz31_1 := blk_frozen BK485.out 1
        have hfz31_2 := blk_frozen BK485.out 2
        have hfz31_3 := blk_frozen BK485.out 3
        go_wp2
        refine bodyPost_ret (results_ct rfl _ _ gb485 72 #[.bool false,.string (⟨#[]⟩ : ByteArray),.int .i64 0,.int .i64 0] (0,0) _ rfl q10_ Try.underlying72 rfl q9_) rfl ?_
        exact ⟨q1_,q23_⟩
       ·rw [if_neg c30] at H
        have c30b0 : decide ((a0.size : Int) < (wrap64 (1 + (wrap64 ((wrap64 ((wrap64 (Int.tdiv (wrap64 (bt a0 0)) 4)) + 1)) - 60))))) = false := decide_eq_false c30
        clear c30
        by_cases c32 : 1 ≤ (wrap64 (1 + (wrap64 ((wrap64 ((wrap64 (Int.tdiv (wrap64 (bt a0 0)) 4)) + 1)) - 60))))
        ·rw [if_pos c32] at H
         have c32b0 := eq_true c32
         have c32b1 : decide (1 ≤ (wrap64 (1 + (wrap64 ((wrap64 ((wrap64 (Int.tdiv (wrap64 (bt a0 0)) 4)) + 1)) - 60))))) = true := decide_eq_true c32
         by_cases c33 : (wrap64 (1 + (wrap64 ((wrap64 ((wrap64 (Int.tdiv (wrap64 (bt a0 0)) 4)) + 1)) - 60)))) ≤ (a0.size : Int)
         ·rw [if_pos c33] at H
          have c33b0 := eq_true c33
          have c33b1 : decide ((wrap64 (1 + (wrap64 ((wrap64 ((wrap64 (Int.tdiv (wrap64 (bt a0 0)) 4)) + 1)) - 60)))) ≤ (a0.size : Int)) = true := decide_eq_true c33
          replace H := Option.bind_eq_some_iff.mp H
          obtain ⟨t488,A340,H⟩ := H
          replace H : (if (wrap64 ((a0.size : Int) - (wrap64 (1 + (wrap64 ((wrap64 ((wrap64 (Int.tdiv (wrap64 (bt a0 0)) 4)) + 1)) - 60)))))) < (wrap64 (t488 + 1)) then (some (false,(⟨#[]⟩ : ByteArray),0,0,(-1))) else (if 0 ≤ (wrap64 (1 + (wrap64 ((wrap64 ((wrap64 (Int.tdiv (wrap64 (bt a0 0)) 4)) + 1)) - 60)))) then (if (wrap64 (1 + (wrap64 ((wrap64 ((wrap64 (Int.tdiv (wrap64 (bt a0 0)) 4)) + 1)) - 60)))) ≤ (wrap64 ((wrap64 (1 + (wrap64 ((wrap64 ((wrap64 (Int.tdiv (wrap64 (bt a0 0)) 4)) + 1)) - 60)))) + (wrap64 (t488 + 1)))) then (if (wrap64 ((wrap64 (1 + (wrap64 ((wrap64 ((wrap64 (Int.tdiv (wrap64 (bt a0 0)) 4)) + 1)) - 60)))) + (wrap64 (t488 + 1)))) ≤ (a0.size : Int) then (some (false,a0.extract ((wrap64 (1 + (wrap64 ((wrap64 ((wrap64 (Int.tdiv (wrap64 (bt a0 0)) 4)) + 1)) - 60)))) : Int).toNat ((wrap64 ((wrap64 (1 + (wrap64 ((wrap64 ((wrap64 (Int.tdiv (wrap64 (bt a0 0)) 4)) + 1)) - 60)))) + (wrap64 (t488 + 1)))) : Int).toNat,0,0,wrap64 ((wrap64 (1 + (wrap64 ((wrap64 ((wrap64 (Int.tdiv (wrap64 (bt a0 0)) 4)) + 1)) - 60)))) + (wrap64 (t488 + 1))))) else (none)) else (none)) else (none))) = some (r1,r2,r3,r4,r5) := H
          have A34 := Aside0.mk A340
          clear A340
          by_cases c35 : (wrap64 ((a0.size : Int) - (wrap64 (1 + (wrap64 ((wrap64 ((wrap64 (Int.tdiv (wrap64 (bt a0 0)) 4)) + 1)) - 60)))))) < (wrap64 (t488 + 1))
          ·rw [if_pos c35] at H
           have c35b0 : decide ((wrap64 ((a0.size : Int) - (wrap64 (1 + (wrap64 ((wrap64 ((wrap64 (Int.tdiv (wrap64 (bt a0 0)) 4)) + 1)) - 60)))))) < (wrap64 (t488 + 1))) = true := decide_eq_true c35
           clear c35
           simp only [Option.some.injEq,Prod.mk.injEq] at H
           obtain ⟨rfl,rfl,rfl,rfl,rfl⟩ := H
           go_wp2_with (first|((with_reducible refine gate_callee (f := 59) rfl ?_);refine goesL_ (some 76) rfl rfl Try.func59 q9_ rfl #[.string (a0.extract 1 ((wrap64 (1 + (wrap64 ((wrap64 ((wrap64 (Int.tdiv (wrap64 (bt a0 0)) 4)) + 1)) - 60)))) : Int).toNat)] rfl q0_ ?_;(with_reducible refine (batonref03_low.calls kj11 (a0.extract 1 ((wrap64 (1 + (wrap64 ((wrap64 ((wrap64 (Int.tdiv (wrap64 (bt a0 0)) 4)) + 1)) - 60)))) : Int).toNat) t488 _ A34.out).mono ?_);rintro e w' ⟨rfl,⟨nd,rfl⟩⟩;refine ⟨_,rfl,?_⟩;(try (rw [drewN_self wc];generalize hq_ : World.drewN wc _ = wc;have n0_ : Aside0 (wc.heap[gb485]? = some (.cells #[.bool false,.string (⟨#[]⟩ : ByteArray),.int .i64 0,.int .i64 0] 72 (0,0))) := ⟨by rw [← hq_];exact q73_⟩;have n1_ : Aside0 (Below w.heap.size w wc) := ⟨by rw [← hq_];exact q23_⟩;clear BK485 HB hq_;have BK485 := n0_;have HB := n1_;clear n0_ n1_));have hcz36_0 : wc.cell? ⟨gb485,0,none⟩ = some (.bool false) := (blk_cell BK485.out 0).trans rfl;have hcz36_1 : wc.cell? ⟨gb485,1,none⟩ = some (.string (⟨#[]⟩ : ByteArray)) := (blk_cell BK485.out 1).trans rfl;have hcz36_2 : wc.cell? ⟨gb485,2,none⟩ = some (.int .i64 0) := (blk_cell BK485.out 2).trans rfl;have hcz36_3 : wc.cell? ⟨gb485,3,none⟩ = some (.int .i64 0) := (blk_cell BK485.out 3).trans rfl;have hfz36_0 := blk_frozen BK485.out 0;have hfz36_1 := blk_frozen BK485.out 1;have hfz36_2 := blk_frozen BK485.out 2;have hfz36_3 := blk_frozen BK485.out 3))
           refine bodyPost_ret (results_ct rfl _ _ gb485 72 #[.bool false,.string (⟨#[]⟩ : ByteArray),.int .i64 0,.int .i64 0] (0,0) _ rfl q10_ Try.underlying72 rfl q9_) rfl ?_
           exact ⟨q1_,q23_⟩
          ·rw [if_neg c35] at H
           have c35b0 : decide ((wrap64 ((a0.size : Int) - (wrap64 (1 + (wrap64 ((wrap64 ((wrap64 (Int.tdiv (wrap64 (bt a0 0)) 4)) + 1)) - 60)))))) < (wrap64 (t488 + 1))) = false := decide_eq_false c35
           clear c35
           obtain ⟨ji37,hji37⟩ : ∃ j_ : Int,(wrap64 (1 + (wrap64 ((wrap64 ((wrap64 (Int.tdiv (wrap64 (bt a0 0)) 4)) + 1)) - 60)))) = j_ := ⟨_,rfl⟩
           replace H : (if 0 ≤ (ji37) then (if (ji37) ≤ (wrap64 ((ji37) + (wrap64 (t488 + 1)))) then (if (wrap64 ((ji37) + (wrap64 (t488 + 1)))) ≤ (a0.size : Int) then (some (false,a0.extract ((ji37) : Int).toNat ((wrap64 ((ji37) + (wrap64 (t488 + 1)))) : Int).toNat,0,0,wrap64 ((ji37) + (wrap64 (t488 + 1))))) else (none)) else (none)) else (none)) = some (r1,r2,r3,r4,r5) := by first|(rw [hji37] at H;exact H)|(simp only [hji37] at H ⊢;exact H)
           (try rw [hji37] at c30b0)
           (try rw [hji37] at c32b0)
           (try rw [hji37] at c32b1)
           (try rw [hji37] at c32)
           (try rw [hji37] at c33b0)
           (try rw [hji37] at c33b1)
           (try rw [hji37] at c33)
           (try rw [hji37] at c35b0)
           (try rw [hji37] at A34)
           have hji37w : (IntKind.i64.wrap (1 + (wrap64 ((wrap64 ((wrap64 (Int.tdiv (wrap64 (bt a0 0)) 4)) + 1)) - 60)))) = ji37 := (i64_w _).trans hji37
           by_cases c38 : 0 ≤ (ji37)
           ·rw [if_pos c38] at H
            have c38b0 := eq_true c38
            have c38b1 : decide (0 ≤ (ji37)) = true := decide_eq_true c38
            clear c38
            by_cases c39 : (ji37) ≤ (wrap64 ((ji37) + (wrap64 (t488 + 1))))
            ·rw [if_pos c39] at H
             have c39b0 := eq_true c39
             have c39b1 : decide ((ji37) ≤ (wrap64 ((ji37) + (wrap64 (t488 + 1))))) = true := decide_eq_true c39
             by_cases c40 : (wrap64 ((ji37) + (wrap64 (t488 + 1)))) ≤ (a0.size : Int)
             ·rw [if_pos c40] at H
              have c40b0 := eq_true c40
              have c40b1 : decide ((wrap64 ((ji37) + (wrap64 (t488 + 1)))) ≤ (a0.size : Int)) = true := decide_eq_true c40
              simp only [Option.some.injEq,Prod.mk.injEq] at H
              obtain ⟨rfl,rfl,rfl,rfl,rfl⟩ := H
              go_wp2_with (first|((with_reducible refine gate_callee (f := 59) rfl ?_);refine goesL_ (some 76) rfl rfl Try.func59 q9_ rfl #[.string (a0.extract 1 ((ji37) : Int).toNat)] rfl (by (try simp only [List.map_toArray,List.map_cons,List.map_nil]);first|done|(simp only [hji37];rfl)|rfl|(simp only [List.length_drop,List.length_take];rfl)) ?_;(with_reducible refine (batonref03_low.calls kj11 (a0.extract 1 ((ji37) : Int).toNat) t488 _ A34.out).mono ?_);rintro e w' ⟨rfl,⟨nd,rfl⟩⟩;refine ⟨_,rfl,?_⟩;(try (rw [drewN_self wc];generalize hq_ : World.drewN wc _ = wc;have n0_ : Aside0 (wc.heap[gb485]? = some (.cells #[.bool false,.string (⟨#[]⟩ : ByteArray),.int .i64 0,.int .i64 0] 72 (0,0))) := ⟨by rw [← hq_];exact q73_⟩;have n1_ : Aside0 (Below w.heap.size w wc) := ⟨by rw [← hq_];exact q23_⟩;clear BK485 HB hq_;have BK485 := n0_;have HB := n1_;clear n0_ n1_));have hcz41_0 : wc.cell? ⟨gb485,0,none⟩ = some (.bool false) := (blk_cell BK485.out 0).trans rfl;have hcz41_1 : wc.cell? ⟨gb485,1,none⟩ = some (.string (⟨#[]⟩ : ByteArray)) := (blk_cell BK485.out 1).trans rfl;have hcz41_2 : wc.cell? ⟨gb485,2,none⟩ = some (.int .i64 0) := (blk_cell BK485.out 2).trans rfl;have hcz41_3 : wc.cell? ⟨gb485,3,none⟩ = some (.int .i64 0) := (blk_cell BK485.out 3).trans rfl;have hfz41_0 := blk_frozen BK485.out 0;have hfz41_1 := blk_frozen BK485.out 1;have hfz41_2 := blk_frozen BK485.out 2;have hfz41_3 := blk_frozen BK485.out 3))
              refine bodyPost_ret (results_ct rfl _ _ gb485 72 #[.bool false,.string (a0.extract ((ji37) : Int).toNat ((wrap64 ((ji37) + (wrap64 (t488 + 1)))) : Int).toNat),.int .i64 0,.int .i64 0] (0,0) _ rfl (by (with_reducible repeat (first|refine blk_drewN ?_ _|refine blk_drew ?_|refine blk_alloc ?_ _));refine blk_put (cs := #[.bool false,.string (a0.extract ((ji37) : Int).toNat ((wrap64 ((ji37) + (wrap64 (t488 + 1)))) : Int).toNat),.int .i64 0,.int .i64 0]) ?_ 3 _ rfl;(with_reducible repeat (first|refine blk_drewN ?_ _|refine blk_drew ?_|refine blk_alloc ?_ _));refine blk_put (cs := #[.bool false,.string (a0.extract ((ji37) : Int).toNat ((wrap64 ((ji37) + (wrap64 (t488 + 1)))) : Int).toNat),.int .i64 0,.int .i64 0]) ?_ 2 _ rfl;(with_reducible repeat (first|refine blk_drewN ?_ _|refine blk_drew ?_|refine blk_alloc ?_ _));refine blk_put (cs := #[.bool false,.string (⟨#[]⟩ : ByteArray),.int .i64 0,.int .i64 0]) ?_ 1 _ rfl;(with_reducible repeat (first|refine blk_drewN ?_ _|refine blk_drew ?_|refine blk_alloc ?_ _));refine blk_put (cs := #[.bool false,.string (⟨#[]⟩ : ByteArray),.int .i64 0,.int .i64 0]) ?_ 0 _ rfl;(with_reducible repeat (first|refine blk_drewN ?_ _|refine blk_drew ?_|refine blk_alloc ?_ _));exact BK485.out) Try.underlying72 rfl q9_) rfl ?_
              exact ⟨by first|rfl|(simp [errW_none,errW_some] <;> rfl)|(simp only [← hji37];first|rfl|(simp [errW_none,errW_some] <;> rfl))|(simp [*,errW_none,errW_some] <;> rfl),q23_⟩
             ·rw [if_neg c40] at H
              exact absurd H (by simp)
            ·rw [if_neg c39] at H
             exact absurd H (by simp)
           ·rw [if_neg c38] at H
            exact absurd H (by simp)
         ·rw [if_neg c33] at H
          exact absurd H (by simp)
        ·rw [if_neg c32] at H
         exact absurd H (by simp)
      ·rw [if_neg c29] at H
       have c29b0 : decide (60 < (wrap64 ((wrap64 (Int.tdiv (wrap64 (bt a0 0)) 4)) + 1))) = false := decide_eq_false c29
       clear c29
       by_cases c42 : (wrap64 ((a0.size : Int) - 1)) < (wrap64 ((wrap64 (Int.tdiv (wrap64 (bt a0 0)) 4)) + 1))
       ·rw [if_pos c42] at H
        have c42b0 : decide ((wrap64 ((a0.size : Int) - 1)) < (wrap64 ((wrap64 (Int.tdiv (wrap64 (bt a0 0)) 4)) + 1))) = true := decide_eq_true c42
        clear c42
        simp only [Option.some.injEq,Prod.mk.injEq] at H
        obtain ⟨rfl,rfl,rfl,rfl,rfl⟩ := H
        have hcz43_0 : wc.cell? ⟨gb485,0,none⟩ = some (.bool false) := (blk_cell BK485.out 0).trans rfl
        have hcz43_1 : wc.cell? ⟨gb485,1,none⟩ = some (.string (⟨#[]⟩ : ByteArray)) := (blk_cell BK485.out 1).trans rfl
        have hcz43_2 : wc.cell? ⟨gb485,2,none⟩ = some (.int .i64 0) := (blk_cell BK485.out 2).trans rfl
        have hcz43_3 : wc.cell? ⟨gb485,3,none⟩ = some (.int .i64 0) := (blk_cell BK485.out 3).trans rfl
        have hfz43_0 := blk_frozen BK485.out 0
        have hfz43_1 := blk_frozen BK485.out 1
        have hfz43_2 := blk_frozen BK485.out 2
        have hfz43_3 := blk_frozen BK485.out 3
        go_wp2
        refine bodyPost_ret (results_ct rfl _ _ gb485 72 #[.bool false,.string (⟨#[]⟩ : ByteArray),.int .i64 0,.int .i64 0] (0,0) _ rfl q10_ Try.underlying72 rfl q9_) rfl ?_
        exact ⟨q1_,q23_⟩
       ·rw [if_neg c42] at H
        have c42b0 : decide ((wrap64 ((a0.size : Int) - 1)) < (wrap64 ((wrap64 (Int.tdiv (wrap64 (bt a0 0)) 4)) + 1))) = false := decide_eq_false c42
        clear c42
        by_cases c44 : 1 ≤ (wrap64 (1 + (wrap64 ((wrap64 (Int.tdiv (wrap64 (bt a0 0)) 4)) + 1))))
        ·rw [if_pos c44] at H
         have c44b0 := eq_true c44
         have c44b1 : decide (1 ≤ (wrap64 (1 + (wrap64 ((wrap64 (Int.tdiv (wrap64 (bt a0 0)) 4)) + 1))))) = true := decide_eq_true c44
         by_cases c45 : (wrap64 (1 + (wrap64 ((wrap64 (Int.tdiv (wrap64 (bt a0 0)) 4)) + 1)))) ≤ (a0.size : Int)
         ·rw [if_pos c45] at H
          have c45b0 := eq_true c45
          have c45b1 : decide ((wrap64 (1 + (wrap64 ((wrap64 (Int.tdiv (wrap64 (bt a0 0)) 4)) + 1)))) ≤ (a0.size : Int)) = true := decide_eq_true c45
          simp only [Option.some.injEq,Prod.mk.injEq] at H
          obtain ⟨rfl,rfl,rfl,rfl,rfl⟩ := H
          have hcz46_0 : wc.cell? ⟨gb485,0,none⟩ = some (.bool false) := (blk_cell BK485.out 0).trans rfl
          have hcz46_1 : wc.cell? ⟨gb485,1,none⟩ = some (.string (⟨#[]⟩ : ByteArray)) := (blk_cell BK485.out 1).trans rfl
          have hcz46_2 : wc.cell? ⟨gb485,2,none⟩ = some (.int .i64 0) := (blk_cell BK485.out 2).trans rfl
          have hcz46_3 : wc.cell? ⟨gb485,3,none⟩ = some (.int .i64 0) := (blk_cell BK485.out 3).trans rfl
          have hfz46_0 := blk_frozen BK485.out 0
          have hfz46_1 := blk_frozen BK485.out 1
          have hfz46_2 := blk_frozen BK485.out 2
          have hfz46_3 := blk_frozen BK485.out 3
          go_wp2
          refine bodyPost_ret (results_ct rfl _ _ gb485 72 #[.bool false,.string (a0.extract 1 ((wrap64 (1 + (wrap64 ((wrap64 (Int.tdiv (wrap64 (bt a0 0)) 4)) + 1)))) : Int).toNat),.int .i64 0,.int .i64 0] (0,0) _ rfl (by (with_reducible repeat (first|refine blk_drewN ?_ _|refine blk_drew ?_|refine blk_alloc ?_ _));refine blk_put (cs := #[.bool false,.string (a0.extract 1 ((wrap64 (1 + (wrap64 ((wrap64 (Int.tdiv (wrap64 (bt a0 0)) 4)) + 1)))) : Int).toNat),.int .i64 0,.int .i64 0]) ?_ 3 _ rfl;(with_reducible repeat (first|refine blk_drewN ?_ _|refine blk_drew ?_|refine blk_alloc ?_ _));refine blk_put (cs := #[.bool false,.string (a0.extract 1 ((wrap64 (1 + (wrap64 ((wrap64 (Int.tdiv (wrap64 (bt a0 0)) 4)) + 1)))) : Int).toNat),.int .i64 0,.int .i64 0]) ?_ 2 _ rfl;(with_reducible repeat (first|refine blk_drewN ?_ _|refine blk_drew ?_|refine blk_alloc ?_ _));refine blk_put (cs := #[.bool false,.string (⟨#[]⟩ : ByteArray),.int .i64 0,.int .i64 0]) ?_ 1 _ rfl;(with_reducible repeat (first|refine blk_drewN ?_ _|refine blk_drew ?_|refine blk_alloc ?_ _));refine blk_put (cs := #[.bool false,.string (⟨#[]⟩ : ByteArray),.int .i64 0,.int .i64 0]) ?_ 0 _ rfl;(with_reducible repeat (first|refine blk_drewN ?_ _|refine blk_drew ?_|refine blk_alloc ?_ _));exact BK485.out) Try.underlying72 rfl q9_) rfl ?_
          exact ⟨q1_,q23_⟩
         ·rw [if_neg c45] at H
          exact absurd H (by simp)
        ·rw [if_neg c44] at H
         exact absurd H (by simp)
 ·rw [if_neg c2] at H
  exact absurd H (by simp)

end Go.Proofs.Ythcjcmgdblhhfaa.PV

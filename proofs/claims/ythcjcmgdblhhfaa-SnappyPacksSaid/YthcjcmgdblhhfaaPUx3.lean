/- The machine side of these statements: what each Go function computes as a plain function, and that its call computes just that. Written by a program of mine (wip/drive.py). No conditions. -/
import Derived.Test.YthcjcmgdblhhfaaPUx0
import Derived.Test.YthcjcmgdblhhfaaPUx1
import Derived.Test.YthcjcmgdblhhfaaPUx2
namespace Go.Proofs.Ythcjcmgdblhhfaa.PU
open Go.RowKit Go.Proofs.YthcjcmgdblhhfaaW.PrintWords Go.Proofs.YthcjcmgdblhhfaaW.PrintLast Go.Proofs.YthcjcmgdblhhfaaW.PrintMore
attribute [local go_sem] max2_int min2_int max_two min_two max_three min_three max_four min_four   -- for this text's walks alone
set_option linter.unusedVariables false
set_option linter.unusedSimpArgs false

/-! ### snappy_Part_add: function 38 -/
mutual
def snappy_Part_add.j0 : Nat → List Int → Int → Int → Bool → ByteArray → Int → Int → Option (List Int × Int)
 | 0,_,_,_,_,_,_,_=>none
 | k + 1,x1,x2,x8,x167000,x167001,x167002,x167003=>(snappy_Part_may.f x167000 x167001 x167002 x167003).bind fun t167=>(if t167 = true then (if x167000 = true then (snappy_Part_add.j1 k x1 x2 x8 (decide (x167002 > (x1.length : Int))) x167000 x167001 x167002 x167003) else (snappy_Part_add.j1 k x1 x2 x8 false x167000 x167001 x167002 x167003)) else (snappy_Part_add.j1 k x1 x2 x8 true x167000 x167001 x167002 x167003))
def snappy_Part_add.j1 : Nat → List Int → Int → Int → Bool → Bool → ByteArray → Int → Int → Option (List Int × Int)
 | 0,_,_,_,_,_,_,_,_=>none
 | k + 1,x1,x2,x8,x16,x167000,x167001,x167002,x167003=>if x16 = true then (some (([] : List Int),4)) else (if x8 > (wrap64 (x2 - (x1.length : Int))) then (some (([] : List Int),40)) else (if x1.length + x167001.size < 140737488355328 then (snappy_Part_add.l0 k (x1 ++ bytesOf x167001) x167003 0 x167000 x167001 x167002 x167003) else (none)))
def snappy_Part_add.l0 : Nat → List Int → Int → Int → Bool → ByteArray → Int → Int → Option (List Int × Int)
 | 0,_,_,_,_,_,_,_=>none
 | k + 1,x1,x43,x44,x167000,x167001,x167002,x167003=>if x44 < x43 then (if 0 ≤ (wrap64 ((x1.length : Int) - x167002)) then (if (wrap64 ((x1.length : Int) - x167002)) < (x1.length : Int) then (if x1.length < 140737488355328 then (snappy_Part_add.l0 k (x1 ++ [rd x1 (wrap64 ((x1.length : Int) - x167002))]) x43 (wrap64 (x44 + 1)) x167000 x167001 x167002 x167003) else (none)) else (none)) else (none)) else (some (x1,0))
end
def snappy_Part_add.f (k : Nat) (a0_0 : Bool) (a0_1 : ByteArray) (a0_2 : Int) (a0_3 : Int) (l1 : List Int) (a2 : Int) : Option (List Int × Int) := if a0_0 = true then (snappy_Part_add.j0 k l1 a2 a0_3 a0_0 a0_1 a0_2 a0_3) else (snappy_Part_add.j0 k l1 a2 (a0_1.size : Int) a0_0 a0_1 a0_2 a0_3)
theorem snappy_Part_add.mono_l : ∀ k, (∀ y0 y1 y2 y3 y4 y5 y6, LeO (snappy_Part_add.j0 k y0 y1 y2 y3 y4 y5 y6) (snappy_Part_add.j0 (k + 1) y0 y1 y2 y3 y4 y5 y6)) ∧ (∀ y0 y1 y2 y3 y4 y5 y6 y7, LeO (snappy_Part_add.j1 k y0 y1 y2 y3 y4 y5 y6 y7) (snappy_Part_add.j1 (k + 1) y0 y1 y2 y3 y4 y5 y6 y7)) ∧ (∀ y0 y1 y2 y3 y4 y5 y6, LeO (snappy_Part_add.l0 k y0 y1 y2 y3 y4 y5 y6) (snappy_Part_add.l0 (k + 1) y0 y1 y2 y3 y4 y5 y6))
 | 0=>⟨fun _ _ _ _ _ _ _ r h=>by simp [snappy_Part_add.j0] at h,fun _ _ _ _ _ _ _ _ r h=>by simp [snappy_Part_add.j1] at h,fun _ _ _ _ _ _ _ r h=>by simp [snappy_Part_add.l0] at h⟩
 | k + 1=>by
  obtain ⟨ih0,ih1,ih2⟩ := snappy_Part_add.mono_l k
  refine ⟨?_,?_,?_⟩
  ·intro y0 y1 y2 y3 y4 y5 y6
   unfold snappy_Part_add.j0
   repeat' first
   | (with_reducible exact ih0 _ _ _ _ _ _ _)
   | (with_reducible exact ih1 _ _ _ _ _ _ _ _)
   | (with_reducible exact ih2 _ _ _ _ _ _ _)
   | (with_reducible exact LeO.refl _)
   | (with_reducible exact LeO.none _)
   | (with_reducible refine LeO.ite ?_ ?_)
   | (with_reducible refine LeO.bind ?_ (fun _=>?_))
   | exact ih0 _ _ _ _ _ _ _
   | exact ih1 _ _ _ _ _ _ _ _
   | exact ih2 _ _ _ _ _ _ _
   | exact LeO.none _
   | refine LeO.ite ?_ ?_
   | refine LeO.bind ?_ (fun _=>?_)
  ·intro y0 y1 y2 y3 y4 y5 y6 y7
   unfold snappy_Part_add.j1
   repeat' first
   | (with_reducible exact ih0 _ _ _ _ _ _ _)
   | (with_reducible exact ih1 _ _ _ _ _ _ _ _)
   | (with_reducible exact ih2 _ _ _ _ _ _ _)
   | (with_reducible exact LeO.refl _)
   | (with_reducible exact LeO.none _)
   | (with_reducible refine LeO.ite ?_ ?_)
   | (with_reducible refine LeO.bind ?_ (fun _=>?_))
   | exact ih0 _ _ _ _ _ _ _
   | exact ih1 _ _ _ _ _ _ _ _
   | exact ih2 _ _ _ _ _ _ _
   | exact LeO.none _
   | refine LeO.ite ?_ ?_
   | refine LeO.bind ?_ (fun _=>?_)
  ·intro y0 y1 y2 y3 y4 y5 y6
   unfold snappy_Part_add.l0
   repeat' first
   | (with_reducible exact ih0 _ _ _ _ _ _ _)
   | (with_reducible exact ih1 _ _ _ _ _ _ _ _)
   | (with_reducible exact ih2 _ _ _ _ _ _ _)
   | (with_reducible exact LeO.refl _)
   | (with_reducible exact LeO.none _)
   | (with_reducible refine LeO.ite ?_ ?_)
   | (with_reducible refine LeO.bind ?_ (fun _=>?_))
   | exact ih0 _ _ _ _ _ _ _
   | exact ih1 _ _ _ _ _ _ _ _
   | exact ih2 _ _ _ _ _ _ _
   | exact LeO.none _
   | refine LeO.ite ?_ ?_
   | refine LeO.bind ?_ (fun _=>?_)
theorem snappy_Part_add.mono : ∀ a0 a1 a2 a3 a4 a5 k, LeO (snappy_Part_add.f k a0 a1 a2 a3 a4 a5) (snappy_Part_add.f (k + 1) a0 a1 a2 a3 a4 a5) := by
 intro a0 a1 a2 a3 a4 a5 k
 obtain ⟨ih0,ih1,ih2⟩ := snappy_Part_add.mono_l k
 unfold snappy_Part_add.f
 repeat' first
   | (with_reducible exact ih0 _ _ _ _ _ _ _)
   | (with_reducible exact ih1 _ _ _ _ _ _ _ _)
   | (with_reducible exact ih2 _ _ _ _ _ _ _)
   | (with_reducible exact LeO.refl _)
   | (with_reducible exact LeO.none _)
   | (with_reducible refine LeO.ite ?_ ?_)
   | (with_reducible refine LeO.bind ?_ (fun _=>?_))
   | exact ih0 _ _ _ _ _ _ _
   | exact ih1 _ _ _ _ _ _ _ _
   | exact ih2 _ _ _ _ _ _ _
   | exact LeO.none _
   | refine LeO.ite ?_ ?_
   | refine LeO.bind ?_ (fun _=>?_)
set_option maxHeartbeats 8000000 in
set_option maxRecDepth 100000 in
theorem snappy_Part_add.calls (k : Nat) (a0_0 : Bool) (a0_1 : ByteArray) (a0_2 : Int) (a0_3 : Int) (P1_ : Nat → Prop) (u9000_ : Value) (l1 : List Int) (a2 : Int) (r1 : List Int) (r2 : Int) (w0 w : World) (hB : Below w0.heap.size w0 w) (ho1 : Kd.R (Kd.int .u8) 5 w w0.heap.size P1_ u9000_ l1) (h : snappy_Part_add.f k a0_0 a0_1 a0_2 a0_3 l1 a2 = some (r1, r2)) :
  Calls Try.prog 38 #[.agg #[.bool a0_0,.string a0_1,.int .i64 a0_2,.int .i64 a0_3],u9000_,.int .i64 a2] w fun e w'=>∃ v0_ : Value,e = .returned (.tuple #[v0_,.int .i64 r2]) ∧ Kd.R (Kd.int .u8) 5 w' w0.heap.size (fun k_=>(P1_ k_ ∨ w.heap.size ≤ k_)) v0_ r1 ∧ Below w0.heap.size w0 w' ∧ Kept w w' (fun k_=>P1_ k_) := by
 have hu35 := Try.underlying35
 have HO1 := Aside0.mk (show Kd.R (Kd.int .u8) 5 w w0.heap.size (fun k_=>(P1_ k_ ∨ w.heap.size ≤ k_)) u9000_ l1 from Kd.R_mono ho1 (fun k_ hk=>(.inl hk)))
 have HK := Aside0.mk (Kept.refl w (fun k_=>P1_ k_))
 have HW0 := Aside0.mk hB.size
 have HB := Aside0.mk hB
 clear hB
 have H : (if a0_0 = true then (snappy_Part_add.j0 k l1 a2 a0_3 a0_0 a0_1 a0_2 a0_3) else (snappy_Part_add.j0 k l1 a2 (a0_1.size : Int) a0_0 a0_1 a0_2 a0_3)) = some (r1,r2) := h
 clear h
 have HC4 := Aside0.mk H
 clear H
 go_enter Try.func38,Try.ntmps38
 go_upto_if 13 with (first|((with_reducible refine gate_dst (N := 3) rfl ?_);(try (refine gate_guard (by rfl) ?_;dsimp only));refine box_event ?hg (N := 3) ?hd (cs := #[.bool a0_0,.string a0_1,.int .i64 a0_2,.int .i64 a0_3]) (t := 35) ?hr ?_;(case hd=>rfl);(case hg=>rfl);(case hr=>first|(go_simp;done)|(go_simp;rfl)|(go_simp;simp [my_u8w];done));intro gb166 hg w5 hbox hb;have n0_ := Aside0.mk (Kd.R_below (by (with_reducible repeat (first|apply Kd.R_alloc|apply Kd.R_drewN|apply Kd.R_drew));exact HO1.out) hb);have n1_ := Aside0.mk (Kept.below (S := (fun k_=>P1_ k_)) (by repeat (first|(with_reducible first|exact HK.out|apply Kept.alloc|apply Kept.drewN|apply Kept.drew)|exact HK.out)) hb);have n2_ := Aside0.mk (below_step (bl_) hb);have n3_ := Aside0.mk (hbox);have n4_ := Aside0.mk ((by rw [hg];exact (by first|exact HK.out.1|exact (show Kept w _ (fun k_=>P1_ k_) from by repeat (first|(with_reducible first|exact HK.out|apply Kept.alloc|apply Kept.drewN|apply Kept.drew)|exact HK.out)).1) : w.heap.size ≤ gb166));have n5_ := Aside0.mk ((by rw [hg];exact (below_size (bl_)) : w0.heap.size ≤ gb166));clear HO1;clear HK;clear HB;have HO1 := n0_;have HK := n1_;have HB := n2_;have BK166 := n3_;have GW166 := n4_;have GE166 := n5_;clear n0_ n1_ n2_ n3_ n4_ n5_;clear hb hbox hg;have hcz6_0 : w5.cell? ⟨gb166,0,none⟩ = some (.bool a0_0) := (blk_cell BK166.out 0).trans rfl;have hcz6_1 : w5.cell? ⟨gb166,1,none⟩ = some (.string a0_1) := (blk_cell BK166.out 1).trans rfl;have hcz6_2 : w5.cell? ⟨gb166,2,none⟩ = some (.int .i64 a0_2) := (blk_cell BK166.out 2).trans rfl;have hcz6_3 : w5.cell? ⟨gb166,3,none⟩ = some (.int .i64 a0_3) := (blk_cell BK166.out 3).trans rfl;have hfz6_0 := blk_frozen BK166.out 0;have hfz6_1 := blk_frozen BK166.out 1;have hfz6_2 := blk_frozen BK166.out 2;have hfz6_3 := blk_frozen BK166.out 3))
 (try simp only [Act.put,List.setIfInBounds_toArray,List.set_cons_zero,List.set_cons_succ])
 go_cut [8] (fun v8 wc=>∃ (kq : Nat) (x8_3 : Int),v8 = .int .i64 x8_3 ∧ Aside0 (snappy_Part_add.j0 kq l1 a2 x8_3 a0_0 a0_1 a0_2 a0_3 = some (r1,r2)) ∧ Aside0 (kq ≤ k) ∧ Aside0 (Kd.R (Kd.int .u8) 5 wc w0.heap.size (fun k_=>(P1_ k_ ∨ w.heap.size ≤ k_)) u9000_ l1) ∧ Aside0 (wc.heap[gb166]? = some (.cells #[.bool a0_0,.string a0_1,.int .i64 a0_2,.int .i64 a0_3] 35 (0,0))) ∧ Aside0 (Kept w wc (fun k_=>P1_ k_)) ∧ Aside0 (Below w0.heap.size w0 wc))
 case first =>
  have H := HC4.out
  clear HC4
  by_cases c7 : a0_0 = true
  ·subst c7
   have H1 : (snappy_Part_add.j0 k l1 a2 a0_3 true a0_1 a0_2 a0_3) = some (r1,r2) := by rw [if_pos rfl] at H;exact H
   clear H
   have H := H1
   clear H1
   have H' := Aside0.mk H
   clear H
   have hcz8_0 : w5.cell? ⟨gb166,0,none⟩ = some (.bool true) := (blk_cell BK166.out 0).trans rfl
   have hcz8_1 : w5.cell? ⟨gb166,1,none⟩ = some (.string a0_1) := (blk_cell BK166.out 1).trans rfl
   have hcz8_2 : w5.cell? ⟨gb166,2,none⟩ = some (.int .i64 a0_2) := (blk_cell BK166.out 2).trans rfl
   have hcz8_3 : w5.cell? ⟨gb166,3,none⟩ = some (.int .i64 a0_3) := (blk_cell BK166.out 3).trans rfl
   have hfz8_0 := blk_frozen BK166.out 0
   have hfz8_1 := blk_frozen BK166.out 1
   have hfz8_2 := blk_frozen BK166.out 2
   have hfz8_3 := blk_frozen BK166.out 3
   go_wp2
   go_meet
   case rel=>exact ⟨_,(a0_3),(by first|rfl|(simp;done)|(simp [*];done)),H',⟨by first|omega|exact Nat.le_refl _⟩,⟨by (with_reducible repeat (first|apply Kd.R_alloc|apply Kd.R_drewN|apply Kd.R_drew));exact HO1.out⟩,⟨by (with_reducible repeat (first|refine blk_drewN ?_ _|refine blk_drew ?_|refine blk_alloc ?_ _));exact BK166.out⟩,⟨by repeat (first|(with_reducible first|exact HK.out|apply Kept.alloc|apply Kept.drewN|apply Kept.drew|refine Kept.setCell ?_ (.inr GW166.out) _)|exact HK.out)⟩,⟨by repeat (first|(with_reducible first|exact HB.out|apply below_alloc|apply pw_below_drewN|apply below_drew1|refine below_set ?_ GE166.out)|exact HB.out)⟩⟩
  ·replace c7 := Bool.eq_false_iff.mpr c7
   subst c7
   have H1 : (snappy_Part_add.j0 k l1 a2 (a0_1.size : Int) false a0_1 a0_2 a0_3) = some (r1,r2) := by rw [if_neg (show ¬ (false = true) by decide)] at H;exact H
   clear H
   have H := H1
   clear H1
   have H' := Aside0.mk H
   clear H
   go_wp2
   go_meet
   case rel=>exact ⟨_,((a0_1.size : Int)),(by first|rfl|(simp;done)|(simp [*];done)),H',⟨by first|omega|exact Nat.le_refl _⟩,⟨by (with_reducible repeat (first|apply Kd.R_alloc|apply Kd.R_drewN|apply Kd.R_drew));exact HO1.out⟩,⟨by (with_reducible repeat (first|refine blk_drewN ?_ _|refine blk_drew ?_|refine blk_alloc ?_ _));exact BK166.out⟩,⟨by repeat (first|(with_reducible first|exact HK.out|apply Kept.alloc|apply Kept.drewN|apply Kept.drew|refine Kept.setCell ?_ (.inr GW166.out) _)|exact HK.out)⟩,⟨by repeat (first|(with_reducible first|exact HB.out|apply below_alloc|apply pw_below_drewN|apply below_drew1|refine below_set ?_ GE166.out)|exact HB.out)⟩⟩
 case rest =>
  clear HC4
  try clear p2
  try clear c3
  try clear c7
  try clear hcz6_0
  try clear hcz6_1
  try clear hcz6_2
  try clear hcz6_3
  try clear hcz8_0
  try clear hcz8_1
  try clear hcz8_2
  try clear hcz8_3
  try clear hfz6_0
  try clear hfz6_1
  try clear hfz6_2
  try clear hfz6_3
  try clear hfz8_0
  try clear hfz8_1
  try clear hfz8_2
  try clear hfz8_3
  obtain ⟨kq,x8_3,rfl,HA,HJ3,HO_1,BK166,HK,HB⟩ := hcut
  cases kq with
  | zero=>exact absurd HA.out (by simp [snappy_Part_add.j0])
  | succ kj3 =>
   have H := HA.out
   clear HA
   simp only [snappy_Part_add.j0] at H
   have HC9 := Aside0.mk H
   clear H
   go_upto_region 4 with (fail)
   go_cut [16] (fun v16 wc=>∃ (kq : Nat) (x16_8 : Bool),v16 = .bool x16_8 ∧ Aside0 (snappy_Part_add.j1 kq l1 a2 x8_3 x16_8 a0_0 a0_1 a0_2 a0_3 = some (r1,r2)) ∧ Aside0 (kq ≤ kj3) ∧ Aside0 (Kd.R (Kd.int .u8) 5 wc w0.heap.size (fun k_=>(P1_ k_ ∨ w.heap.size ≤ k_)) u9000_ l1) ∧ Aside0 (wc.heap[gb166]? = some (.cells #[.bool a0_0,.string a0_1,.int .i64 a0_2,.int .i64 a0_3] 35 (0,0))) ∧ Aside0 (Kept w wc (fun k_=>P1_ k_)) ∧ Aside0 (Below w0.heap.size w0 wc))
   case first =>
    have H := HC9.out
    clear HC9
    replace H := Option.bind_eq_some_iff.mp H
    obtain ⟨t167,A100,H⟩ := H
    replace H : (if t167 = true then (if a0_0 = true then (snappy_Part_add.j1 kj3 l1 a2 x8_3 (decide (a0_2 > (l1.length : Int))) a0_0 a0_1 a0_2 a0_3) else (snappy_Part_add.j1 kj3 l1 a2 x8_3 false a0_0 a0_1 a0_2 a0_3)) else (snappy_Part_add.j1 kj3 l1 a2 x8_3 true a0_0 a0_1 a0_2 a0_3)) = some (r1,r2) := H
    have A10 := Aside0.mk A100
    clear A100
    by_cases c11 : t167 = true
    ·subst c11
     have H1 : (if a0_0 = true then (snappy_Part_add.j1 kj3 l1 a2 x8_3 (decide (a0_2 > (l1.length : Int))) a0_0 a0_1 a0_2 a0_3) else (snappy_Part_add.j1 kj3 l1 a2 x8_3 false a0_0 a0_1 a0_2 a0_3)) = some (r1,r2) := by rw [if_pos rfl] at H;exact H
     clear H
     have H := H1
     clear H1
     by_cases c12 : a0_0 = true
     ·subst c12
      have H1 : (snappy_Part_add.j1 kj3 l1 a2 x8_3 (decide (a0_2 > (l1.length : Int))) true a0_1 a0_2 a0_3) = some (r1,r2) := by rw [if_pos rfl] at H;exact H
      clear H
      have H := H1
      clear H1
      have H' := Aside0.mk H
      clear H
      have hcz13_0 : wc.cell? ⟨gb166,0,none⟩ = some (.bool true) := (blk_cell BK166.out 0).trans rfl
      have hcz13_1 : wc.cell? ⟨gb166,1,none⟩ = some (.string a0_1) := (blk_cell BK166.out 1).trans rfl
      have hcz13_2 : wc.cell? ⟨gb166,2,none⟩ = some (.int .i64 a0_2) := (blk_cell BK166.out 2).trans rfl
      have hcz13_3 : wc.cell? ⟨gb166,3,none⟩ = some (.int .i64 a0_3) := (blk_cell BK166.out 3).trans rfl
      have hfz13_0 := blk_frozen BK166.out 0
      have hfz13_1 := blk_frozen BK166.out 1
      have hfz13_2 := blk_frozen BK166.out 2
      have hfz13_3 := blk_frozen BK166.out 3
      go_wp2_with (first|((with_reducible refine gate_callee (f := 55) rfl ?_);refine goesL_ (some 18) rfl rfl Try.func55 (by kernel_rfl) rfl #[.agg #[.bool true,.string a0_1,.int .i64 a0_2,.int .i64 a0_3]] rfl (by (try simp only [List.map_toArray,List.map_cons,List.map_nil]);first|done|rfl|(simp only [List.length_drop,List.length_take];rfl)) ?_;(with_reducible refine (snappy_Part_may.calls true a0_1 a0_2 a0_3 true _ A10.out).mono ?_);rintro e w14 ⟨rfl,hb⟩;refine ⟨_,rfl,?_⟩;have n0_ := Aside0.mk (Kd.R_below (by (with_reducible repeat (first|apply Kd.R_alloc|apply Kd.R_drewN|apply Kd.R_drew));exact HO_1.out) hb);have n1_ := Aside0.mk (blk_below (g := gb166) (o := .cells #[.bool true,.string a0_1,.int .i64 a0_2,.int .i64 a0_3] 35 (0,0)) (by (with_reducible repeat (first|refine blk_drewN ?_ _|refine blk_drew ?_|refine blk_alloc ?_ _));exact BK166.out) hb);have n2_ := Aside0.mk (Kept.below (S := (fun k_=>P1_ k_)) (by repeat (first|(with_reducible first|exact HK.out|apply Kept.alloc|apply Kept.drewN|apply Kept.drew|refine Kept.setCell ?_ (.inr GW166.out) _)|exact HK.out)) hb);have n3_ := Aside0.mk (below_step (by repeat (first|(with_reducible first|exact HB.out|apply below_alloc|apply pw_below_drewN|apply below_drew1|refine below_set ?_ GE166.out)|exact HB.out)) hb);clear HO_1;clear BK166;clear HK;clear HB;have HO_1 := n0_;have BK166 := n1_;have HK := n2_;have HB := n3_;clear n0_ n1_ n2_ n3_;(try clear hb);(try clear hb2);(try clear hk);(try clear hi);have hcz15_0 : w14.cell? ⟨gb166,0,none⟩ = some (.bool true) := (blk_cell BK166.out 0).trans rfl;have hcz15_1 : w14.cell? ⟨gb166,1,none⟩ = some (.string a0_1) := (blk_cell BK166.out 1).trans rfl;have hcz15_2 : w14.cell? ⟨gb166,2,none⟩ = some (.int .i64 a0_2) := (blk_cell BK166.out 2).trans rfl;have hcz15_3 : w14.cell? ⟨gb166,3,none⟩ = some (.int .i64 a0_3) := (blk_cell BK166.out 3).trans rfl;have hfz15_0 := blk_frozen BK166.out 0;have hfz15_1 := blk_frozen BK166.out 1;have hfz15_2 := blk_frozen BK166.out 2;have hfz15_3 := blk_frozen BK166.out 3;obtain ⟨Ao16,co16,eo16⟩ := Kd.R_slice HO_1.out;subst eo16))
      go_meet
      case rel=>exact ⟨_,(decide (a0_2 > (l1.length : Int))),(by first|rfl|(simp;done)|(simp [*];done)),H',⟨by have := HJ3.out;first|omega|exact Nat.le_refl _⟩,⟨by (with_reducible repeat (first|apply Kd.R_alloc|apply Kd.R_drewN|apply Kd.R_drew));exact HO_1.out⟩,⟨by (with_reducible repeat (first|refine blk_drewN ?_ _|refine blk_drew ?_|refine blk_alloc ?_ _));exact BK166.out⟩,⟨by repeat (first|(with_reducible first|exact HK.out|apply Kept.alloc|apply Kept.drewN|apply Kept.drew|refine Kept.setCell ?_ (.inr GW166.out) _)|exact HK.out)⟩,⟨by repeat (first|(with_reducible first|exact HB.out|apply below_alloc|apply pw_below_drewN|apply below_drew1|refine below_set ?_ GE166.out)|exact HB.out)⟩⟩
     ·replace c12 := Bool.eq_false_iff.mpr c12
      subst c12
      have H1 : (snappy_Part_add.j1 kj3 l1 a2 x8_3 false false a0_1 a0_2 a0_3) = some (r1,r2) := by rw [if_neg (show ¬ (false = true) by decide)] at H;exact H
      clear H
      have H := H1
      clear H1
      have H' := Aside0.mk H
      clear H
      have hcz17_0 : wc.cell? ⟨gb166,0,none⟩ = some (.bool false) := (blk_cell BK166.out 0).trans rfl
      have hcz17_1 : wc.cell? ⟨gb166,1,none⟩ = some (.string a0_1) := (blk_cell BK166.out 1).trans rfl
      have hcz17_2 : wc.cell? ⟨gb166,2,none⟩ = some (.int .i64 a0_2) := (blk_cell BK166.out 2).trans rfl
      have hcz17_3 : wc.cell? ⟨gb166,3,none⟩ = some (.int .i64 a0_3) := (blk_cell BK166.out 3).trans rfl
      have hfz17_0 := blk_frozen BK166.out 0
      have hfz17_1 := blk_frozen BK166.out 1
      have hfz17_2 := blk_frozen BK166.out 2
      have hfz17_3 := blk_frozen BK166.out 3
      go_wp2_with (first|((with_reducible refine gate_callee (f := 55) rfl ?_);refine goesL_ (some 18) rfl rfl Try.func55 (by kernel_rfl) rfl #[.agg #[.bool false,.string a0_1,.int .i64 a0_2,.int .i64 a0_3]] rfl (by (try simp only [List.map_toArray,List.map_cons,List.map_nil]);first|done|rfl|(simp only [List.length_drop,List.length_take];rfl)) ?_;(with_reducible refine (snappy_Part_may.calls false a0_1 a0_2 a0_3 true _ A10.out).mono ?_);rintro e w18 ⟨rfl,hb⟩;refine ⟨_,rfl,?_⟩;have n0_ := Aside0.mk (Kd.R_below (by (with_reducible repeat (first|apply Kd.R_alloc|apply Kd.R_drewN|apply Kd.R_drew));exact HO_1.out) hb);have n1_ := Aside0.mk (blk_below (g := gb166) (o := .cells #[.bool false,.string a0_1,.int .i64 a0_2,.int .i64 a0_3] 35 (0,0)) (by (with_reducible repeat (first|refine blk_drewN ?_ _|refine blk_drew ?_|refine blk_alloc ?_ _));exact BK166.out) hb);have n2_ := Aside0.mk (Kept.below (S := (fun k_=>P1_ k_)) (by repeat (first|(with_reducible first|exact HK.out|apply Kept.alloc|apply Kept.drewN|apply Kept.drew|refine Kept.setCell ?_ (.inr GW166.out) _)|exact HK.out)) hb);have n3_ := Aside0.mk (below_step (by repeat (first|(with_reducible first|exact HB.out|apply below_alloc|apply pw_below_drewN|apply below_drew1|refine below_set ?_ GE166.out)|exact HB.out)) hb);clear HO_1;clear BK166;clear HK;clear HB;have HO_1 := n0_;have BK166 := n1_;have HK := n2_;have HB := n3_;clear n0_ n1_ n2_ n3_;(try clear hb);(try clear hb2);(try clear hk);(try clear hi);have hcz19_0 : w18.cell? ⟨gb166,0,none⟩ = some (.bool false) := (blk_cell BK166.out 0).trans rfl;have hcz19_1 : w18.cell? ⟨gb166,1,none⟩ = some (.string a0_1) := (blk_cell BK166.out 1).trans rfl;have hcz19_2 : w18.cell? ⟨gb166,2,none⟩ = some (.int .i64 a0_2) := (blk_cell BK166.out 2).trans rfl;have hcz19_3 : w18.cell? ⟨gb166,3,none⟩ = some (.int .i64 a0_3) := (blk_cell BK166.out 3).trans rfl;have hfz19_0 := blk_frozen BK166.out 0;have hfz19_1 := blk_frozen BK166.out 1;have hfz19_2 := blk_frozen BK166.out 2;have hfz19_3 := blk_frozen BK166.out 3))
      go_meet
      case rel=>exact ⟨_,(false),(by first|rfl|(simp;done)|(simp [*];done)),H',⟨by have := HJ3.out;first|omega|exact Nat.le_refl _⟩,⟨by (with_reducible repeat (first|apply Kd.R_alloc|apply Kd.R_drewN|apply Kd.R_drew));exact HO_1.out⟩,⟨by (with_reducible repeat (first|refine blk_drewN ?_ _|refine blk_drew ?_|refine blk_alloc ?_ _));exact BK166.out⟩,⟨by repeat (first|(with_reducible first|exact HK.out|apply Kept.alloc|apply Kept.drewN|apply Kept.drew|refine Kept.setCell ?_ (.inr GW166.out) _)|exact HK.out)⟩,⟨by repeat (first|(with_reducible first|exact HB.out|apply below_alloc|apply pw_below_drewN|apply below_drew1|refine below_set ?_ GE166.out)|exact HB.out)⟩⟩
    ·replace c11 := Bool.eq_false_iff.mpr c11
     subst c11
     have H1 : (snappy_Part_add.j1 kj3 l1 a2 x8_3 true a0_0 a0_1 a0_2 a0_3) = some (r1,r2) := by rw [if_neg (show ¬ (false = true) by decide)] at H;exact H
     clear H
     have H := H1
     clear H1
     have H' := Aside0.mk H
     clear H
     have hcz20_0 : wc.cell? ⟨gb166,0,none⟩ = some (.bool a0_0) := (blk_cell BK166.out 0).trans rfl
     have hcz20_1 : wc.cell? ⟨gb166,1,none⟩ = some (.string a0_1) := (blk_cell BK166.out 1).trans rfl
     have hcz20_2 : wc.cell? ⟨gb166,2,none⟩ = some (.int .i64 a0_2) := (blk_cell BK166.out 2).trans rfl
     have hcz20_3 : wc.cell? ⟨gb166,3,none⟩ = some (.int .i64 a0_3) := (blk_cell BK166.out 3).trans rfl
     have hfz20_0 := blk_frozen BK166.out 0
     have hfz20_1 := blk_frozen BK166.out 1
     have hfz20_2 := blk_frozen BK166.out 2
     have hfz20_3 := blk_frozen BK166.out 3
     go_wp2_with (first|((with_reducible refine gate_callee (f := 55) rfl ?_);refine goesL_ (some 18) rfl rfl Try.func55 (by kernel_rfl) rfl #[.agg #[.bool a0_0,.string a0_1,.int .i64 a0_2,.int .i64 a0_3]] rfl (by (try simp only [List.map_toArray,List.map_cons,List.map_nil]);first|done|rfl|(simp only [List.length_drop,List.length_take];rfl)) ?_;(with_reducible refine (snappy_Part_may.calls a0_0 a0_1 a0_2 a0_3 false _ A10.out).mono ?_);rintro e w21 ⟨rfl,hb⟩;refine ⟨_,rfl,?_⟩;have n0_ := Aside0.mk (Kd.R_below (by (with_reducible repeat (first|apply Kd.R_alloc|apply Kd.R_drewN|apply Kd.R_drew));exact HO_1.out) hb);have n1_ := Aside0.mk (blk_below (g := gb166) (o := .cells #[.bool a0_0,.string a0_1,.int .i64 a0_2,.int .i64 a0_3] 35 (0,0)) (by (with_reducible repeat (first|refine blk_drewN ?_ _|refine blk_drew ?_|refine blk_alloc ?_ _));exact BK166.out) hb);have n2_ := Aside0.mk (Kept.below (S := (fun k_=>P1_ k_)) (by repeat (first|(with_reducible first|exact HK.out|apply Kept.alloc|apply Kept.drewN|apply Kept.drew|refine Kept.setCell ?_ (.inr GW166.out) _)|exact HK.out)) hb);have n3_ := Aside0.mk (below_step (by repeat (first|(with_reducible first|exact HB.out|apply below_alloc|apply pw_below_drewN|apply below_drew1|refine below_set ?_ GE166.out)|exact HB.out)) hb);clear HO_1;clear BK166;clear HK;clear HB;have HO_1 := n0_;have BK166 := n1_;have HK := n2_;have HB := n3_;clear n0_ n1_ n2_ n3_;(try clear hb);(try clear hb2);(try clear hk);(try clear hi)))
     go_meet
     case rel=>exact ⟨_,(true),(by first|rfl|(simp;done)|(simp [*];done)),H',⟨by have := HJ3.out;first|omega|exact Nat.le_refl _⟩,⟨by (with_reducible repeat (first|apply Kd.R_alloc|apply Kd.R_drewN|apply Kd.R_drew));exact HO_1.out⟩,⟨by (with_reducible repeat (first|refine blk_drewN ?_ _|refine blk_drew ?_|refine blk_alloc ?_ _));exact BK166.out⟩,⟨by repeat (first|(with_reducible first|exact HK.out|apply Kept.alloc|apply Kept.drewN|apply Kept.drew|refine Kept.setCell ?_ (.inr GW166.out) _)|exact HK.out)⟩,⟨by repeat (first|(with_reducible first|exact HB.out|apply below_alloc|apply pw_below_drewN|apply below_drew1|refine below_set ?_ GE166.out)|exact HB.out)⟩⟩
   case rest =>
    clear HC9
    try clear c1
    try clear p2
    try clear c3
    try clear c5
    try clear c7
    try clear c11
    try clear c12
    try clear hcz13_0
    try clear hcz13_1
    try clear hcz13_2
    try clear hcz13_3
    try clear hcz15_0
    try clear hcz15_1
    try clear hcz15_2
    try clear hcz15_3
    try clear hcz17_0
    try clear hcz17_1
    try clear hcz17_2
    try clear hcz17_3
    try clear hcz19_0
    try clear hcz19_1
    try clear hcz19_2
    try clear hcz19_3
    try clear hcz20_0
    try clear hcz20_1
    try clear hcz20_2
    try clear hcz20_3
    try clear hcz6_0
    try clear hcz6_1
    try clear hcz6_2
    try clear hcz6_3
    try clear hcz8_0
    try clear hcz8_1
    try clear hcz8_2
    try clear hcz8_3
    try clear hfz13_0
    try clear hfz13_1
    try clear hfz13_2
    try clear hfz13_3
    try clear hfz15_0
    try clear hfz15_1
    try clear hfz15_2
    try clear hfz15_3
    try clear hfz17_0
    try clear hfz17_1
    try clear hfz17_2
    try clear hfz17_3
    try clear hfz19_0
    try clear hfz19_1
    try clear hfz19_2
    try clear hfz19_3
    try clear hfz20_0
    try clear hfz20_1
    try clear hfz20_2
    try clear hfz20_3
    try clear hfz6_0
    try clear hfz6_1
    try clear hfz6_2
    try clear hfz6_3
    try clear hfz8_0
    try clear hfz8_1
    try clear hfz8_2
    try clear hfz8_3
    try clear p2
    obtain ⟨kq,x16_8,rfl,HA,HJ8,HO_1,BK166,HK,HB⟩ := hcut
    cases kq with
    | zero=>exact absurd HA.out (by simp [snappy_Part_add.j1])
    | succ kj8 =>
     have H := HA.out
     clear HA
     simp only [snappy_Part_add.j1] at H
     by_cases c22 : x16_8 = true
     ·subst c22
      have H1 : (some (([] : List Int),4)) = some (r1,r2) := by rw [if_pos rfl] at H;exact H
      clear H
      have H := H1
      clear H1
      simp only [Option.some.injEq,Prod.mk.injEq] at H
      obtain ⟨rfl,rfl⟩ := H
      go_wp2
      go_ret2
      exact ⟨_,by first|rfl|(simp [errW_none,errW_some] <;> rfl)|(simp [*,errW_none,errW_some] <;> rfl),by first|exact Kd.R_nil _ _ _ _ _|exact Kd.N_nil _ _ _ _ _|exact Kd.V_nil _ _ _ _ _|exact Kd.Q_nil _ _ _ _ _|exact Kd.S_nil _ _ _ _ _,by repeat (first|(with_reducible first|exact HB.out|apply below_alloc|apply pw_below_drewN|apply below_drew1|refine below_set ?_ GE166.out)|exact HB.out),by repeat (first|(with_reducible first|exact HK.out|apply Kept.alloc|apply Kept.drewN|apply Kept.drew|refine Kept.setCell ?_ (.inr GW166.out) _)|exact HK.out)⟩
     ·replace c22 := Bool.eq_false_iff.mpr c22
      subst c22
      have H1 : (if x8_3 > (wrap64 (a2 - (l1.length : Int))) then (some (([] : List Int),40)) else (if l1.length + a0_1.size < 140737488355328 then (snappy_Part_add.l0 kj8 (l1 ++ bytesOf a0_1) a0_3 0 a0_0 a0_1 a0_2 a0_3) else (none))) = some (r1,r2) := by rw [if_neg (show ¬ (false = true) by decide)] at H;exact H
      clear H
      have H := H1
      clear H1
      by_cases c23 : x8_3 > (wrap64 (a2 - (l1.length : Int)))
      ·rw [if_pos c23] at H
       have c23b0 : decide ((wrap64 (a2 - (l1.length : Int))) < x8_3) = true := decide_eq_true c23
       clear c23
       simp only [Option.some.injEq,Prod.mk.injEq] at H
       obtain ⟨rfl,rfl⟩ := H
       obtain ⟨Ao24,co24,eo24⟩ := Kd.R_slice HO_1.out
       subst eo24
       go_wp2
       go_ret2
       exact ⟨_,by first|rfl|(simp [errW_none,errW_some] <;> rfl)|(simp [*,errW_none,errW_some] <;> rfl),by first|exact Kd.R_nil _ _ _ _ _|exact Kd.N_nil _ _ _ _ _|exact Kd.V_nil _ _ _ _ _|exact Kd.Q_nil _ _ _ _ _|exact Kd.S_nil _ _ _ _ _,by repeat (first|(with_reducible first|exact HB.out|apply below_alloc|apply pw_below_drewN|apply below_drew1|refine below_set ?_ GE166.out)|exact HB.out),by repeat (first|(with_reducible first|exact HK.out|apply Kept.alloc|apply Kept.drewN|apply Kept.drew|refine Kept.setCell ?_ (.inr GW166.out) _)|exact HK.out)⟩
      ·rw [if_neg c23] at H
       have c23b0 : decide ((wrap64 (a2 - (l1.length : Int))) < x8_3) = false := decide_eq_false c23
       clear c23
       by_cases c25 : l1.length + a0_1.size < 140737488355328
       ·rw [if_pos c25] at H
        have LMc25 := Aside0.mk c25
        clear c25
        obtain ⟨y168,hy168⟩ : ∃ y_ : List Int,y_ = (l1 ++ bytesOf a0_1) := ⟨_,rfl⟩
        replace H : (snappy_Part_add.l0 kj8 y168 a0_3 0 a0_0 a0_1 a0_2 a0_3) = some (r1,r2) := by first|(rw [hy168];with_reducible exact H)|(have H2_ := (Option.bind_some _ _).symm.trans H;rw [hy168];with_reducible exact H2_)|(have H2_ := (Option.bind_some _ _).symm.trans H;with_reducible exact H2_)|with_reducible exact H|(rw [hy168];exact H)|exact H
        have Ny168 := Aside0.mk hy168
        clear hy168
        have H' := Aside0.mk H
        clear H
        obtain ⟨Ao26,co26,eo26⟩ := Kd.R_slice HO_1.out
        subst eo26
        have hcz27_0 : wc.cell? ⟨gb166,0,none⟩ = some (.bool a0_0) := (blk_cell BK166.out 0).trans rfl
        have hcz27_1 : wc.cell? ⟨gb166,1,none⟩ = some (.string a0_1) := (blk_cell BK166.out 1).trans rfl
        have hcz27_2 : wc.cell? ⟨gb166,2,none⟩ = some (.int .i64 a0_2) := (blk_cell BK166.out 2).trans rfl
        have hcz27_3 : wc.cell? ⟨gb166,3,none⟩ = some (.int .i64 a0_3) := (blk_cell BK166.out 3).trans rfl
        have hfz27_0 := blk_frozen BK166.out 0
        have hfz27_1 := blk_frozen BK166.out 1
        have hfz27_2 := blk_frozen BK166.out 2
        have hfz27_3 := blk_frozen BK166.out 3
        go_wp2_with (first|(at_builtin;refine my_append_str (w0 := w0) w0.heap.size rfl (.tmp 38) _ 28 9 5 rfl Try.underlying28 Try.underlying9 info5 (.slice Ao26 l1.length co26) l1 a0_1 (fun k_=>(P1_ k_ ∨ w.heap.size ≤ k_)) rfl rfl ?aO ?aF ?aB ?aS ?aL ?_;(case aB=>exact (by repeat (first|(with_reducible first|exact HB.out|apply below_alloc|apply pw_below_drewN|apply below_drew1|refine below_set ?_ GE166.out)|exact HB.out)));(case aF=>exact (fun k_ hk=>(.inr (Nat.le_trans (by first|exact HK.out.1|exact (show Kept w _ (fun k_=>P1_ k_) from by repeat (first|(with_reducible first|exact HK.out|apply Kept.alloc|apply Kept.drewN|apply Kept.drew|refine Kept.setCell ?_ (.inr GW166.out) _)|exact HK.out)).1) hk))));(case aO=>exact (by (with_reducible repeat (first|apply Kd.R_alloc|apply Kd.R_drewN|apply Kd.R_drew));exact HO_1.out));(case aS=>exact (below_size (by repeat (first|(with_reducible first|exact HB.out|apply below_alloc|apply pw_below_drewN|apply below_drew1|refine below_set ?_ GE166.out)|exact HB.out))));(case aL=>have := LMc25.out;omega);intro v169 w28 ho hb hg hat;rw [← Ny168.out] at ho;have n0_ := Aside0.mk (blk_grown (g := gb166) (o := .cells #[.bool a0_0,.string a0_1,.int .i64 a0_2,.int .i64 a0_3] 35 (0,0)) (by (with_reducible repeat (first|refine blk_drewN ?_ _|refine blk_drew ?_|refine blk_alloc ?_ _));exact BK166.out) hg (Kd.R_ne HO_1.out BK166.out (by decide)));have n1_ := Aside0.mk (hb);have n2_ := Aside0.mk (Kept.of_grown (S := (fun k_=>P1_ k_)) hg (by repeat (first|(with_reducible first|exact HK.out|apply Kept.alloc|apply Kept.drewN|apply Kept.drew|refine Kept.setCell ?_ (.inr GW166.out) _)|exact HK.out)) (fun k_ e_=>(HO_1.out.1 k_ e_)));have n3_ := Aside0.mk (ho);clear BK166;clear HB;clear HK;clear HO_1;have BK166 := n0_;have HB := n1_;have HK := n2_;have HO170 := n3_;clear n0_ n1_ n2_ n3_;clear ho hb hg hat;have hcz29_0 : w28.cell? ⟨gb166,0,none⟩ = some (.bool a0_0) := (blk_cell BK166.out 0).trans rfl;have hcz29_1 : w28.cell? ⟨gb166,1,none⟩ = some (.string a0_1) := (blk_cell BK166.out 1).trans rfl;have hcz29_2 : w28.cell? ⟨gb166,2,none⟩ = some (.int .i64 a0_2) := (blk_cell BK166.out 2).trans rfl;have hcz29_3 : w28.cell? ⟨gb166,3,none⟩ = some (.int .i64 a0_3) := (blk_cell BK166.out 3).trans rfl;have hfz29_0 := blk_frozen BK166.out 0;have hfz29_1 := blk_frozen BK166.out 1;have hfz29_2 := blk_frozen BK166.out 2;have hfz29_3 := blk_frozen BK166.out 3))
        go_loopg [1,44] kj8 (fun kq v1 v44 w'=>∃ (x1_3 : List Int) (x44_3 : Int),v44 = .int .i64 x44_3 ∧ Aside0 (snappy_Part_add.l0 kq x1_3 a0_3 x44_3 a0_0 a0_1 a0_2 a0_3 = some (r1,r2)) ∧ Aside0 (kq ≤ kj8) ∧ Aside0 (Kd.R (Kd.int .u8) 5 w' w0.heap.size (fun k_=>(P1_ k_ ∨ w.heap.size ≤ k_)) v1 x1_3) ∧ Aside0 (w'.heap[gb166]? = some (.cells #[.bool a0_0,.string a0_1,.int .i64 a0_2,.int .i64 a0_3] 35 (0,0))) ∧ Aside0 (Kept w w' (fun k_=>P1_ k_)) ∧ Aside0 (Below w0.heap.size w0 w'))
        case atStart=>exact ⟨(y168),(0),(by first|rfl|(simp;done)|(simp [*];done)),H',⟨Nat.le_refl _⟩,⟨by (with_reducible repeat (first|apply Kd.R_alloc|apply Kd.R_drewN|apply Kd.R_drew));exact HO170.out⟩,⟨by (with_reducible repeat (first|refine blk_drewN ?_ _|refine blk_drew ?_|refine blk_alloc ?_ _));exact BK166.out⟩,⟨by repeat (first|(with_reducible first|exact HK.out|apply Kept.alloc|apply Kept.drewN|apply Kept.drew|refine Kept.setCell ?_ (.inr GW166.out) _)|exact HK.out)⟩,⟨by repeat (first|(with_reducible first|exact HB.out|apply below_alloc|apply pw_below_drewN|apply below_drew1|refine below_set ?_ GE166.out)|exact HB.out)⟩⟩
        case round =>
         clear H'
         try clear c1
         try clear c2
         try clear p2
         try clear c3
         try clear c5
         try clear p6
         try clear c7
         try clear c11
         try clear c12
         try clear c22
         try clear c23
         try clear c23b0
         try clear c25
         try clear hcz13_0
         try clear hcz13_1
         try clear hcz13_2
         try clear hcz13_3
         try clear hcz15_0
         try clear hcz15_1
         try clear hcz15_2
         try clear hcz15_3
         try clear hcz17_0
         try clear hcz17_1
         try clear hcz17_2
         try clear hcz17_3
         try clear hcz19_0
         try clear hcz19_1
         try clear hcz19_2
         try clear hcz19_3
         try clear hcz20_0
         try clear hcz20_1
         try clear hcz20_2
         try clear hcz20_3
         try clear hcz27_0
         try clear hcz27_1
         try clear hcz27_2
         try clear hcz27_3
         try clear hcz29_0
         try clear hcz29_1
         try clear hcz29_2
         try clear hcz29_3
         try clear hcz6_0
         try clear hcz6_1
         try clear hcz6_2
         try clear hcz6_3
         try clear hcz8_0
         try clear hcz8_1
         try clear hcz8_2
         try clear hcz8_3
         try clear hfz13_0
         try clear hfz13_1
         try clear hfz13_2
         try clear hfz13_3
         try clear hfz15_0
         try clear hfz15_1
         try clear hfz15_2
         try clear hfz15_3
         try clear hfz17_0
         try clear hfz17_1
         try clear hfz17_2
         try clear hfz17_3
         try clear hfz19_0
         try clear hfz19_1
         try clear hfz19_2
         try clear hfz19_3
         try clear hfz20_0
         try clear hfz20_1
         try clear hfz20_2
         try clear hfz20_3
         try clear hfz27_0
         try clear hfz27_1
         try clear hfz27_2
         try clear hfz27_3
         try clear hfz29_0
         try clear hfz29_1
         try clear hfz29_2
         try clear hfz29_3
         try clear hfz6_0
         try clear hfz6_1
         try clear hfz6_2
         try clear hfz6_3
         try clear hfz8_0
         try clear hfz8_1
         try clear hfz8_2
         try clear hfz8_3
         try clear p2
         obtain ⟨x1_3,x44_3,rfl,HA,HK3,HO_1,BK166,HK,HB⟩ := hrel
         cases gk with
         | zero=>exact absurd HA.out (by simp [snappy_Part_add.l0])
         | succ k3 =>
          have H := HA.out
          clear HA
          simp only [snappy_Part_add.l0] at H
          by_cases c30 : x44_3 < a0_3
          ·rw [if_pos c30] at H
           have c30b0 : decide (x44_3 < a0_3) = true := decide_eq_true c30
           clear c30
           obtain ⟨ji31,hji31⟩ : ∃ j_ : Int,(wrap64 ((x1_3.length : Int) - a0_2)) = j_ := ⟨_,rfl⟩
           replace H : (if 0 ≤ (ji31) then (if (ji31) < (x1_3.length : Int) then (if x1_3.length < 140737488355328 then (snappy_Part_add.l0 k3 (x1_3 ++ [rd x1_3 (ji31)]) a0_3 (wrap64 (x44_3 + 1)) a0_0 a0_1 a0_2 a0_3) else (none)) else (none)) else (none)) = some (r1,r2) := by first|(rw [hji31] at H;exact H)|(simp only [hji31] at H ⊢;exact H)
           have hji31w : (IntKind.i64.wrap ((x1_3.length : Int) - a0_2)) = ji31 := (i64_w _).trans hji31
           by_cases c32 : 0 ≤ (ji31)
           ·rw [if_pos c32] at H
            have c32b0 : decide (0 ≤ (ji31)) = true := decide_eq_true c32
            clear c32
            by_cases c33 : (ji31) < (x1_3.length : Int)
            ·rw [if_pos c33] at H
             have c33b0 : decide ((ji31) < (x1_3.length : Int)) = true := decide_eq_true c33
             clear c33
             by_cases c34 : x1_3.length < 140737488355328
             ·rw [if_pos c34] at H
              have LMc34 := Aside0.mk c34
              clear c34
              obtain ⟨y172,hy172⟩ : ∃ y_ : List Int,y_ = (x1_3 ++ [rd x1_3 (ji31)]) := ⟨_,rfl⟩
              replace H : (snappy_Part_add.l0 k3 y172 a0_3 (wrap64 (x44_3 + 1)) a0_0 a0_1 a0_2 a0_3) = some (r1,r2) := by first|(rw [hy172];with_reducible exact H)|(have H2_ := (Option.bind_some _ _).symm.trans H;rw [hy172];with_reducible exact H2_)|(have H2_ := (Option.bind_some _ _).symm.trans H;with_reducible exact H2_)|with_reducible exact H|(rw [hy172];exact H)|exact H
              have Ny172 := Aside0.mk hy172
              clear hy172
              have H' := Aside0.mk H
              clear H
              obtain ⟨Ao35,co35,eo35⟩ := Kd.R_slice HO_1.out
              subst eo35
              have hcz36_0 : wr.cell? ⟨gb166,0,none⟩ = some (.bool a0_0) := (blk_cell BK166.out 0).trans rfl
              have hcz36_1 : wr.cell? ⟨gb166,1,none⟩ = some (.string a0_1) := (blk_cell BK166.out 1).trans rfl
              have hcz36_2 : wr.cell? ⟨gb166,2,none⟩ = some (.int .i64 a0_2) := (blk_cell BK166.out 2).trans rfl
              have hcz36_3 : wr.cell? ⟨gb166,3,none⟩ = some (.int .i64 a0_3) := (blk_cell BK166.out 3).trans rfl
              have hfz36_0 := blk_frozen BK166.out 0
              have hfz36_1 := blk_frozen BK166.out 1
              have hfz36_2 := blk_frozen BK166.out 2
              have hfz36_3 := blk_frozen BK166.out 3
              have p171 : 0 ≤ ((ji31) : Int) := of_decide_eq_true (by first|(with_reducible assumption)|assumption)
              have q171 : (ji31) < (x1_3.length : Int) := of_decide_eq_true (by first|(with_reducible assumption)|assumption)
              obtain ⟨ad171,e171,hx171_0⟩ := Kd.at_int (Kd.R_reads' HO_1.out).2.2 (ji31) p171 q171
              cases e171
              replace p171 := eq_true p171
              replace q171 := eq_true q171
              go_wp2_with (first|((with_reducible refine gate_builtin (b := .append) (xs := #[.tmp 46,.tmp 55]) rfl ?_);(try (refine gate_guard (by rfl) ?_;dsimp only));at_builtin;refine Kd.R_append (Kd.int .u8) (w0 := w0) w0.heap.size rfl (.tmp 46) (.tmp 55) 28 5 (.int .u8 0) 1 rfl Try.underlying28 info5 rfl (by decide) (by omega) (.slice (some ad171) x1_3.length co35) x1_3 (rd x1_3 (ji31)) [.int .u8 (rd x1_3 (ji31))] (fun k_=>(P1_ k_ ∨ w.heap.size ≤ k_)) (fun _=>False) rfl rfl ?aP (fun _ hk=>hk.elim) ?aF ?aO ?aB ?aS ?aL ?_;(case aP=>exact rfl);(case aB=>exact (by repeat (first|(with_reducible first|exact HB.out|apply below_alloc|apply pw_below_drewN|apply below_drew1|refine below_set ?_ GE166.out)|exact HB.out)));(case aF=>exact (fun k_ hk=>(.inr (Nat.le_trans (by first|exact HK.out.1|exact (show Kept w _ (fun k_=>P1_ k_) from by repeat (first|(with_reducible first|exact HK.out|apply Kept.alloc|apply Kept.drewN|apply Kept.drew|refine Kept.setCell ?_ (.inr GW166.out) _)|exact HK.out)).1) hk))));(case aO=>exact (by (with_reducible repeat (first|apply Kd.R_alloc|apply Kd.R_drewN|apply Kd.R_drew));exact HO_1.out));(case aS=>exact (below_size (by repeat (first|(with_reducible first|exact HB.out|apply below_alloc|apply pw_below_drewN|apply below_drew1|refine below_set ?_ GE166.out)|exact HB.out))));(case aL=>have := LMc34.out;omega);intro v173 w37 ho hb hg hat;rw [← Ny172.out] at ho;have n0_ := Aside0.mk (blk_grown (g := gb166) (o := .cells #[.bool a0_0,.string a0_1,.int .i64 a0_2,.int .i64 a0_3] 35 (0,0)) (by (with_reducible repeat (first|refine blk_drewN ?_ _|refine blk_drew ?_|refine blk_alloc ?_ _));exact BK166.out) hg (Kd.R_ne HO_1.out BK166.out (by decide)));have n1_ := Aside0.mk (hb);have n2_ := Aside0.mk (Kept.of_grown (S := (fun k_=>P1_ k_)) hg (by repeat (first|(with_reducible first|exact HK.out|apply Kept.alloc|apply Kept.drewN|apply Kept.drew|refine Kept.setCell ?_ (.inr GW166.out) _)|exact HK.out)) (fun k_ e_=>(HO_1.out.1 k_ e_)));have n3_ := Aside0.mk (ho);clear BK166;clear HB;clear HK;clear HO_1;have BK166 := n0_;have HB := n1_;have HK := n2_;have HO174 := n3_;clear n0_ n1_ n2_ n3_;clear ho hb hg hat))
              go_roundg k3
              case measure=>have := HJ3.out;have := HJ8.out;have := HK3.out;omega
              case rel=>exact ⟨(y172),(wrap64 (x44_3 + 1)),(by first|rfl|(simp;done)|(simp [*];done)),H',⟨by have := HJ3.out;have := HJ8.out;have := HK3.out;omega⟩,⟨by (with_reducible repeat (first|apply Kd.R_alloc|apply Kd.R_drewN|apply Kd.R_drew));exact HO174.out⟩,⟨by (with_reducible repeat (first|refine blk_drewN ?_ _|refine blk_drew ?_|refine blk_alloc ?_ _));exact BK166.out⟩,⟨by repeat (first|(with_reducible first|exact HK.out|apply Kept.alloc|apply Kept.drewN|apply Kept.drew|refine Kept.setCell ?_ (.inr GW166.out) _)|exact HK.out)⟩,⟨by repeat (first|(with_reducible first|exact HB.out|apply below_alloc|apply pw_below_drewN|apply below_drew1|refine below_set ?_ GE166.out)|exact HB.out)⟩⟩
             ·rw [if_neg c34] at H
              exact absurd H (by simp)
            ·rw [if_neg c33] at H
             exact absurd H (by simp)
           ·rw [if_neg c32] at H
            exact absurd H (by simp)
          ·rw [if_neg c30] at H
           have c30b0 : decide (x44_3 < a0_3) = false := decide_eq_false c30
           clear c30
           simp only [Option.some.injEq,Prod.mk.injEq] at H
           obtain ⟨rfl,rfl⟩ := H
           go_wp2
           go_ret2
           exact ⟨_,by first|rfl|(simp [errW_none,errW_some] <;> rfl)|(simp [*,errW_none,errW_some] <;> rfl),by (with_reducible repeat (first|apply Kd.R_alloc|apply Kd.R_drewN|apply Kd.R_drew));exact HO_1.out,by repeat (first|(with_reducible first|exact HB.out|apply below_alloc|apply pw_below_drewN|apply below_drew1|refine below_set ?_ GE166.out)|exact HB.out),by repeat (first|(with_reducible first|exact HK.out|apply Kept.alloc|apply Kept.drewN|apply Kept.drew|refine Kept.setCell ?_ (.inr GW166.out) _)|exact HK.out)⟩
       ·rw [if_neg c25] at H
        exact absurd H (by simp)

/-! ### snappy_Decode: function 13 -/
def snappy_Decode.l0 : Nat → Int → List Int → ByteArray → Int → Int → Option (ByteArray × Int)
 | 0,_,_,_,_,_=>none
 | k + 1,x6,x9,x181000,x181001,x181002=>(bits_Reader_Left.f x181000 x181001 x181002).bind fun bt185=>(if bt185.1 > 0 then ((snappy_next.f k bt185.2.1 bt185.2.2.1 bt185.2.2.2).bind fun bt189=>((bits_Reader_Err.f bt189.2.2.2.2.1 bt189.2.2.2.2.2.1 bt189.2.2.2.2.2.2).bind fun bt197=>(if bt197.1 = 0 then (if (bt189.2.1.size : Int) > 65536 then (if (bt189.2.1.size : Int) > (wrap64 ((wrap64 (x6)) - (x9.length : Int))) then (some ((⟨#[]⟩ : ByteArray),4)) else (if x9.length + bt189.2.1.size < 140737488355328 then (snappy_Decode.l0 k x6 (x9 ++ bytesOf bt189.2.1) bt197.2.1 bt197.2.2.1 bt197.2.2.2) else (none))) else ((snappy_Part_add.f k bt189.1 bt189.2.1 bt189.2.2.1 bt189.2.2.2.1 x9 (wrap64 (x6))).bind fun bt204=>(if bt204.2 = 0 then (snappy_Decode.l0 k x6 bt204.1 bt197.2.1 bt197.2.2.1 bt197.2.2.2) else (some ((⟨#[]⟩ : ByteArray),4))))) else (some ((⟨#[]⟩ : ByteArray),bt197.1))))) else (if (x9.length : Int) < (wrap64 (x6)) then (some ((⟨#[]⟩ : ByteArray),4)) else (some (strOfNums x9,0))))
def snappy_Decode.f (k : Nat) (a0 : ByteArray) (a1 : Int) : Option (ByteArray × Int) := (snappy_Size.f k a0).bind fun bt175 => (if bt175.2 = 0 then (if a1 < 0 then (some ((⟨#[]⟩ : ByteArray), 40)) else (if bt175.1 > (IntKind.u64.wrap (a1)) then (some ((⟨#[]⟩ : ByteArray), 40)) else ((bits_New.f a0).bind fun bt177 => ((bits_Reader_Varint.f k bt177.1 bt177.2.1 bt177.2.2 4294967296).bind fun bt181 => (snappy_Decode.l0 k bt175.1 ([] : List Int) bt181.2.1 bt181.2.2.1 bt181.2.2.2))))) else (some ((⟨#[]⟩ : ByteArray), bt175.2)))
theorem snappy_Decode.mono_l : ∀ k, (∀ y0 y1 y2 y3 y4, LeO (snappy_Decode.l0 k y0 y1 y2 y3 y4) (snappy_Decode.l0 (k + 1) y0 y1 y2 y3 y4))
 | 0=>fun _ _ _ _ _ r h=>by simp [snappy_Decode.l0] at h
 | k + 1=>by
  have ih0 := snappy_Decode.mono_l k
  ·intro y0 y1 y2 y3 y4
   unfold snappy_Decode.l0
   repeat' first
   | (with_reducible exact ih0 _ _ _ _ _)
   | (with_reducible exact bits_Reader_Varint.mono _ _ _ _ _)
   | (with_reducible exact snappy_Part_add.mono _ _ _ _ _ _ _)
   | (with_reducible exact snappy_Size.mono _ _)
   | (with_reducible exact snappy_next.mono _ _ _ _)
   | (with_reducible exact LeO.refl _)
   | (with_reducible exact LeO.none _)
   | (with_reducible refine LeO.ite ?_ ?_)
   | (with_reducible refine LeO.bind ?_ (fun _=>?_))
   | exact ih0 _ _ _ _ _
   | exact bits_Reader_Varint.mono _ _ _ _ _
   | exact snappy_Part_add.mono _ _ _ _ _ _ _
   | exact snappy_Size.mono _ _
   | exact snappy_next.mono _ _ _ _
   | exact LeO.none _
   | refine LeO.ite ?_ ?_
   | refine LeO.bind ?_ (fun _=>?_)
theorem snappy_Decode.mono : ∀ a0 a1 k, LeO (snappy_Decode.f k a0 a1) (snappy_Decode.f (k + 1) a0 a1) := by
 intro a0 a1 k
 have ih0 := snappy_Decode.mono_l k
 unfold snappy_Decode.f
 repeat' first
   | (with_reducible exact ih0 _ _ _ _ _)
   | (with_reducible exact bits_Reader_Varint.mono _ _ _ _ _)
   | (with_reducible exact snappy_Part_add.mono _ _ _ _ _ _ _)
   | (with_reducible exact snappy_Size.mono _ _)
   | (with_reducible exact snappy_next.mono _ _ _ _)
   | (with_reducible exact LeO.refl _)
   | (with_reducible exact LeO.none _)
   | (with_reducible refine LeO.ite ?_ ?_)
   | (with_reducible refine LeO.bind ?_ (fun _=>?_))
   | exact ih0 _ _ _ _ _
   | exact bits_Reader_Varint.mono _ _ _ _ _
   | exact snappy_Part_add.mono _ _ _ _ _ _ _
   | exact snappy_Size.mono _ _
   | exact snappy_next.mono _ _ _ _
   | exact LeO.none _
   | refine LeO.ite ?_ ?_
   | refine LeO.bind ?_ (fun _=>?_)
set_option maxHeartbeats 8000000 in
set_option maxRecDepth 100000 in
theorem snappy_Decode.calls (k : Nat) (a0 : ByteArray) (a1 : Int) (r1 : ByteArray) (r2 : Int) (w : World) (h : snappy_Decode.f k a0 a1 = some (r1, r2)) :
  Calls Try.prog 13 #[.string a0,.int .i64 a1] w fun e w'=>e = .returned (.tuple #[.string r1,.int .i64 r2]) ∧ Below w.heap.size w w' := by
 have hu35 := Try.underlying35
 have HB := Aside0.mk (Below.refl w.heap.size w)
 have H : ((snappy_Size.f k a0).bind fun bt175=>(if bt175.2 = 0 then (if a1 < 0 then (some ((⟨#[]⟩ : ByteArray),40)) else (if bt175.1 > (IntKind.u64.wrap (a1)) then (some ((⟨#[]⟩ : ByteArray),40)) else ((bits_New.f a0).bind fun bt177=>((bits_Reader_Varint.f k bt177.1 bt177.2.1 bt177.2.2 4294967296).bind fun bt181=>(snappy_Decode.l0 k bt175.1 ([] : List Int) bt181.2.1 bt181.2.2.1 bt181.2.2.2))))) else (some ((⟨#[]⟩ : ByteArray),bt175.2)))) = some (r1,r2) := h
 clear h
 replace H := Option.bind_eq_some_iff.mp H
 obtain ⟨⟨t175,t176⟩,A30,H⟩ := H
 replace H : (if t176 = 0 then (if a1 < 0 then (some ((⟨#[]⟩ : ByteArray),40)) else (if t175 > (IntKind.u64.wrap (a1)) then (some ((⟨#[]⟩ : ByteArray),40)) else ((bits_New.f a0).bind fun bt177=>((bits_Reader_Varint.f k bt177.1 bt177.2.1 bt177.2.2 4294967296).bind fun bt181=>(snappy_Decode.l0 k t175 ([] : List Int) bt181.2.1 bt181.2.2.1 bt181.2.2.2))))) else (some ((⟨#[]⟩ : ByteArray),t176))) = some (r1,r2) := H
 have A3 := Aside0.mk A30
 clear A30
 by_cases c4 : t176 = 0
 ·rw [if_pos c4] at H
  have c4b0 : (t176 == 0) = true := beq_iff_eq.mpr c4
  have c4b1 : (t176 != 0) = false := bne_eq_false_iff_eq.mpr c4
  clear c4
  by_cases c5 : a1 < 0
  ·rw [if_pos c5] at H
   have c5b0 : decide (a1 < 0) = true := decide_eq_true c5
   clear c5
   simp only [Option.some.injEq,Prod.mk.injEq] at H
   obtain ⟨rfl,rfl⟩ := H
   go_enter Try.func13,Try.ntmps13
   go_wp2_with (first|((with_reducible refine gate_callee (f := 27) rfl ?_);refine goesL_ (some 14) rfl rfl Try.func27 (by kernel_rfl) rfl #[.string a0] rfl (by (try simp only [List.map_toArray,List.map_cons,List.map_nil]);first|done|rfl|(simp only [List.length_drop,List.length_take];rfl)) ?_;(with_reducible refine (snappy_Size.calls k a0 t175 t176 _ A3.out).mono ?_);rintro e w' ⟨rfl,⟨nd,rfl⟩⟩;refine ⟨_,rfl,?_⟩))
   go_ret2
   exact ⟨by first|rfl|(simp [errW_none,errW_some] <;> rfl)|(simp [*,errW_none,errW_some] <;> rfl),bl_⟩
  ·rw [if_neg c5] at H
   have c5b0 : decide (a1 < 0) = false := decide_eq_false c5
   clear c5
   by_cases c6 : t175 > (IntKind.u64.wrap (a1))
   ·rw [if_pos c6] at H
    have c6b0 : decide ((IntKind.u64.wrap (a1)) < t175) = true := decide_eq_true c6
    clear c6
    simp only [Option.some.injEq,Prod.mk.injEq] at H
    obtain ⟨rfl,rfl⟩ := H
    go_enter Try.func13,Try.ntmps13
    go_wp2_with (first|((with_reducible refine gate_callee (f := 27) rfl ?_);refine goesL_ (some 14) rfl rfl Try.func27 (by kernel_rfl) rfl #[.string a0] rfl (by (try simp only [List.map_toArray,List.map_cons,List.map_nil]);first|done|rfl|(simp only [List.length_drop,List.length_take];rfl)) ?_;(with_reducible refine (snappy_Size.calls k a0 t175 t176 _ A3.out).mono ?_);rintro e w' ⟨rfl,⟨nd,rfl⟩⟩;refine ⟨_,rfl,?_⟩))
    go_ret2
    exact ⟨by first|rfl|(simp [errW_none,errW_some] <;> rfl)|(simp [*,errW_none,errW_some] <;> rfl),bl_⟩
   ·rw [if_neg c6] at H
    have c6b0 : decide ((IntKind.u64.wrap (a1)) < t175) = false := decide_eq_false c6
    clear c6
    replace H := Option.bind_eq_some_iff.mp H
    obtain ⟨⟨t177,t178,t179⟩,A70,H⟩ := H
    replace H : ((bits_Reader_Varint.f k t177 t178 t179 4294967296).bind fun bt181=>(snappy_Decode.l0 k t175 ([] : List Int) bt181.2.1 bt181.2.2.1 bt181.2.2.2)) = some (r1,r2) := H
    have A7 := Aside0.mk A70
    clear A70
    replace H := Option.bind_eq_some_iff.mp H
    obtain ⟨⟨t181,t182,t183,t184⟩,A80,H⟩ := H
    replace H : (snappy_Decode.l0 k t175 ([] : List Int) t182 t183 t184) = some (r1,r2) := H
    have A8 := Aside0.mk A80
    clear A80
    have H' := Aside0.mk H
    clear H
    go_enter Try.func13,Try.ntmps13
    go_wp2_with (first|((with_reducible refine gate_callee (f := 27) rfl ?_);refine goesL_ (some 14) rfl rfl Try.func27 (by kernel_rfl) rfl #[.string a0] rfl (by (try simp only [List.map_toArray,List.map_cons,List.map_nil]);first|done|rfl|(simp only [List.length_drop,List.length_take];rfl)) ?_;(with_reducible refine (snappy_Size.calls k a0 t175 t176 _ A3.out).mono ?_);rintro e w' ⟨rfl,⟨nd,rfl⟩⟩;refine ⟨_,rfl,?_⟩)|((with_reducible refine gate_callee (f := 33) rfl ?_);refine goesL_ (some 31) rfl rfl Try.func33 (by kernel_rfl) rfl #[.string a0] rfl (by (try simp only [List.map_toArray,List.map_cons,List.map_nil]);first|done|rfl|(simp only [List.length_drop,List.length_take];rfl)) ?_;(with_reducible refine (bits_New.calls a0 t177 t178 t179 w _ ?side1 A7.out).mono ?_);(case side1=>repeat (first|(with_reducible first|exact HB.out|apply below_alloc|apply pw_below_drewN|apply below_drew1)|exact HB.out));rintro e w9 ⟨g180,rfl,hi,hb,hb2⟩;refine ⟨_,rfl,?_⟩;have n0_ := Aside0.mk (hb);have n1_ := Aside0.mk (hi);clear HB;have HB := n0_;have HI180 := n1_;clear n0_ n1_;(try clear hb);(try clear hb2);(try clear hk);(try clear hi))|((with_reducible refine gate_callee (f := 34) rfl ?_);refine goesL_ (some 33) rfl rfl Try.func34 (by kernel_rfl) rfl #[.pointer (some ⟨g180,0,none⟩),.int .u64 4294967296] rfl (by (try simp only [List.map_toArray,List.map_cons,List.map_nil]);first|done|rfl|(simp only [List.length_drop,List.length_take];rfl)) ?_;(with_reducible refine (bits_Reader_Varint.calls k g180 t177 t178 t179 4294967296 t181 t182 t183 t184 w _ ?side1 ?side2 A8.out).mono ?_);(case side1=>repeat (first|(with_reducible first|exact HI180.out|apply IsS81.alloc|apply IsS81.drewN|apply IsS81.drew|apply IsS81.set_0|apply IsS81.set_1|apply IsS81.set_2)|exact HI180.out));(case side2=>repeat (first|(with_reducible first|exact HB.out|apply below_alloc|apply pw_below_drewN|apply below_drew1|refine below_set ?_ (IsS81.ge HI180.out))|exact HB.out));rintro e w10 ⟨rfl,hi,hb,hk⟩;refine ⟨_,rfl,?_⟩;have n0_ := Aside0.mk (hb);have n1_ := Aside0.mk (hi);clear HB;clear HI180;have HB := n0_;have HI180 := n1_;clear n0_ n1_;(try clear hb);(try clear hb2);(try clear hk);(try clear hi)))
    go_loopg [9] k (fun kq v9 w'=>∃ (x9_1 : List Int) (x181000_1 : ByteArray) (x181001_1 : Int) (x181002_1 : Int),Aside0 (snappy_Decode.l0 kq t175 x9_1 x181000_1 x181001_1 x181002_1 = some (r1,r2)) ∧ Aside0 (kq ≤ k) ∧ Aside0 (Kd.R (Kd.int .u8) 5 w' w.heap.size (fun _=>True) v9 x9_1) ∧ Aside0 (IsS81 w w' g180 x181000_1 x181001_1 x181002_1) ∧ Aside0 (Below w.heap.size w w'))
    case atStart=>exact ⟨(([] : List Int)),(t182),(t183),(t184),H',⟨Nat.le_refl _⟩,⟨by first|exact Kd.R_nil _ _ _ _ _|exact Kd.N_nil _ _ _ _ _|exact Kd.V_nil _ _ _ _ _|exact Kd.Q_nil _ _ _ _ _|exact Kd.S_nil _ _ _ _ _⟩,⟨by repeat (first|(with_reducible first|exact HI180.out|apply IsS81.alloc|apply IsS81.drewN|apply IsS81.drew|apply IsS81.set_0|apply IsS81.set_1|apply IsS81.set_2)|exact HI180.out)⟩,⟨by repeat (first|(with_reducible first|exact HB.out|apply below_alloc|apply pw_below_drewN|apply below_drew1|refine below_set ?_ (IsS81.ge HI180.out))|exact HB.out)⟩⟩
    case round =>
     clear H'
     try clear c1
     try clear c2
     try clear p2
     try clear c3
     try clear c4
     try clear c4b0
     try clear c4b1
     try clear c5
     try clear c5b0
     try clear c6
     try clear c6b0
     obtain ⟨x9_1,x181000_1,x181001_1,x181002_1,HA,HK1,HO_9,HI180,HB⟩ := hrel
     cases gk with
     | zero=>exact absurd HA.out (by simp [snappy_Decode.l0])
     | succ k1 =>
      have H := HA.out
      clear HA
      simp only [snappy_Decode.l0] at H
      replace H := Option.bind_eq_some_iff.mp H
      obtain ⟨⟨t185,t186,t187,t188⟩,A110,H⟩ := H
      replace H : (if t185 > 0 then ((snappy_next.f k1 t186 t187 t188).bind fun bt189=>((bits_Reader_Err.f bt189.2.2.2.2.1 bt189.2.2.2.2.2.1 bt189.2.2.2.2.2.2).bind fun bt197=>(if bt197.1 = 0 then (if (bt189.2.1.size : Int) > 65536 then (if (bt189.2.1.size : Int) > (wrap64 ((wrap64 (t175)) - (x9_1.length : Int))) then (some ((⟨#[]⟩ : ByteArray),4)) else (if x9_1.length + bt189.2.1.size < 140737488355328 then (snappy_Decode.l0 k1 t175 (x9_1 ++ bytesOf bt189.2.1) bt197.2.1 bt197.2.2.1 bt197.2.2.2) else (none))) else ((snappy_Part_add.f k1 bt189.1 bt189.2.1 bt189.2.2.1 bt189.2.2.2.1 x9_1 (wrap64 (t175))).bind fun bt204=>(if bt204.2 = 0 then (snappy_Decode.l0 k1 t175 bt204.1 bt197.2.1 bt197.2.2.1 bt197.2.2.2) else (some ((⟨#[]⟩ : ByteArray),4))))) else (some ((⟨#[]⟩ : ByteArray),bt197.1))))) else (if (x9_1.length : Int) < (wrap64 (t175)) then (some ((⟨#[]⟩ : ByteArray),4)) else (some (strOfNums x9_1,0)))) = some (r1,r2) := H
      have A11 := Aside0.mk A110
      clear A110
      by_cases c12 : t185 > 0
      ·rw [if_pos c12] at H
       have c12b0 : decide (0 < t185) = true := decide_eq_true c12
       clear c12
       replace H := Option.bind_eq_some_iff.mp H
       obtain ⟨⟨t189,t190,t191,t192,t193,t194,t195⟩,A130,H⟩ := H
       replace H : ((bits_Reader_Err.f t193 t194 t195).bind fun bt197=>(if bt197.1 = 0 then (if (t190.size : Int) > 65536 then (if (t190.size : Int) > (wrap64 ((wrap64 (t175)) - (x9_1.length : Int))) then (some ((⟨#[]⟩ : ByteArray),4)) else (if x9_1.length + t190.size < 140737488355328 then (snappy_Decode.l0 k1 t175 (x9_1 ++ bytesOf t190) bt197.2.1 bt197.2.2.1 bt197.2.2.2) else (none))) else ((snappy_Part_add.f k1 t189 t190 t191 t192 x9_1 (wrap64 (t175))).bind fun bt204=>(if bt204.2 = 0 then (snappy_Decode.l0 k1 t175 bt204.1 bt197.2.1 bt197.2.2.1 bt197.2.2.2) else (some ((⟨#[]⟩ : ByteArray),4))))) else (some ((⟨#[]⟩ : ByteArray),bt197.1)))) = some (r1,r2) := H
       have A13 := Aside0.mk A130
       clear A130
       replace H := Option.bind_eq_some_iff.mp H
       obtain ⟨⟨t197,t198,t199,t200⟩,A140,H⟩ := H
       replace H : (if t197 = 0 then (if (t190.size : Int) > 65536 then (if (t190.size : Int) > (wrap64 ((wrap64 (t175)) - (x9_1.length : Int))) then (some ((⟨#[]⟩ : ByteArray),4)) else (if x9_1.length + t190.size < 140737488355328 then (snappy_Decode.l0 k1 t175 (x9_1 ++ bytesOf t190) t198 t199 t200) else (none))) else ((snappy_Part_add.f k1 t189 t190 t191 t192 x9_1 (wrap64 (t175))).bind fun bt204=>(if bt204.2 = 0 then (snappy_Decode.l0 k1 t175 bt204.1 t198 t199 t200) else (some ((⟨#[]⟩ : ByteArray),4))))) else (some ((⟨#[]⟩ : ByteArray),t197))) = some (r1,r2) := H
       have A14 := Aside0.mk A140
       clear A140
       by_cases c15 : t197 = 0
       ·rw [if_pos c15] at H
        have c15b0 : (t197 == 0) = true := beq_iff_eq.mpr c15
        have c15b1 : (t197 != 0) = false := bne_eq_false_iff_eq.mpr c15
        clear c15
        by_cases c16 : (t190.size : Int) > 65536
        ·rw [if_pos c16] at H
         have c16b0 : decide (65536 < (t190.size : Int)) = true := decide_eq_true c16
         have c16b1 : decide (65536 < t190.size) = true := decide_eq_true (by omega)
         clear c16
         by_cases c17 : (t190.size : Int) > (wrap64 ((wrap64 (t175)) - (x9_1.length : Int)))
         ·rw [if_pos c17] at H
          have c17b0 : decide ((wrap64 ((wrap64 (t175)) - (x9_1.length : Int))) < (t190.size : Int)) = true := decide_eq_true c17
          clear c17
          simp only [Option.some.injEq,Prod.mk.injEq] at H
          obtain ⟨rfl,rfl⟩ := H
          go_wp2_with (first|((with_reducible refine gate_callee (f := 35) rfl ?_);refine goesL_ (some 35) rfl rfl Try.func35 (by kernel_rfl) rfl #[.pointer (some ⟨g180,0,none⟩)] rfl (by (try simp only [List.map_toArray,List.map_cons,List.map_nil]);first|done|rfl|(simp only [List.length_drop,List.length_take];rfl)) ?_;(with_reducible refine (bits_Reader_Left.calls g180 x181000_1 x181001_1 x181002_1 t185 t186 t187 t188 w _ ?side1 ?side2 A11.out).mono ?_);(case side1=>repeat (first|(with_reducible first|exact HI180.out|apply IsS81.alloc|apply IsS81.drewN|apply IsS81.drew|apply IsS81.set_0|apply IsS81.set_1|apply IsS81.set_2)|exact HI180.out));(case side2=>repeat (first|(with_reducible first|exact HB.out|apply below_alloc|apply pw_below_drewN|apply below_drew1|refine below_set ?_ (IsS81.ge HI180.out))|exact HB.out));rintro e w18 ⟨rfl,hi,hb,hk⟩;refine ⟨_,rfl,?_⟩;have n0_ := Aside0.mk (Kd.R_mono (Kd.R_keep (IsS81.apart (show IsS81 w _ g180 x181000_1 x181001_1 x181002_1 from by repeat (first|(with_reducible first|exact HI180.out|apply IsS81.alloc|apply IsS81.drewN|apply IsS81.drew|apply IsS81.set_0|apply IsS81.set_1|apply IsS81.set_2)|exact HI180.out)) (by (with_reducible repeat (first|apply Kd.R_alloc|apply Kd.R_drewN|apply Kd.R_drew));exact HO_9.out) (by decide)) hk (fun _ h=>h.2)) (fun _ h=>h.1));have n1_ := Aside0.mk (hb);have n2_ := Aside0.mk (hi);clear HO_9;clear HB;clear HI180;have HO_9 := n0_;have HB := n1_;have HI180 := n2_;clear n0_ n1_ n2_;(try clear hb);(try clear hb2);(try clear hk);(try clear hi))|((with_reducible refine gate_callee (f := 36) rfl ?_);refine goesL_ (some 38) rfl rfl Try.func36 (by kernel_rfl) rfl #[.pointer (some ⟨g180,0,none⟩)] rfl (by (try simp only [List.map_toArray,List.map_cons,List.map_nil]);first|done|rfl|(simp only [List.length_drop,List.length_take];rfl)) ?_;(with_reducible refine (snappy_next.calls k1 g180 t186 t187 t188 t189 t190 t191 t192 t193 t194 t195 w _ ?side1 ?side2 A13.out).mono ?_);(case side1=>repeat (first|(with_reducible first|exact HI180.out|apply IsS81.alloc|apply IsS81.drewN|apply IsS81.drew|apply IsS81.set_0|apply IsS81.set_1|apply IsS81.set_2)|exact HI180.out));(case side2=>repeat (first|(with_reducible first|exact HB.out|apply below_alloc|apply pw_below_drewN|apply below_drew1|refine below_set ?_ (IsS81.ge HI180.out))|exact HB.out));rintro e w19 ⟨rfl,hi,hb,hk⟩;refine ⟨_,rfl,?_⟩;have n0_ := Aside0.mk (Kd.R_mono (Kd.R_keep (IsS81.apart (show IsS81 w _ g180 t186 t187 t188 from by repeat (first|(with_reducible first|exact HI180.out|apply IsS81.alloc|apply IsS81.drewN|apply IsS81.drew|apply IsS81.set_0|apply IsS81.set_1|apply IsS81.set_2)|exact HI180.out)) (by (with_reducible repeat (first|apply Kd.R_alloc|apply Kd.R_drewN|apply Kd.R_drew));exact HO_9.out) (by decide)) hk (fun _ h=>h.2)) (fun _ h=>h.1));have n1_ := Aside0.mk (hb);have n2_ := Aside0.mk (hi);clear HO_9;clear HB;clear HI180;have HO_9 := n0_;have HB := n1_;have HI180 := n2_;clear n0_ n1_ n2_;(try clear hb);(try clear hb2);(try clear hk);(try clear hi))|((with_reducible refine gate_dst (N := 10) rfl ?_);refine box_event ?hg (N := 10) ?hd (cs := #[.bool false,.string (⟨#[]⟩ : ByteArray),.int .i64 0,.int .i64 0]) (t := 35) ?hr ?_;(case hd=>rfl);(case hg=>rfl);(case hr=>first|(go_simp;done)|(go_simp;rfl)|(go_simp;simp [my_u8w];done));intro gb196 hg w20 hbox hb;have n0_ := Aside0.mk (Kd.R_below (by (with_reducible repeat (first|apply Kd.R_alloc|apply Kd.R_drewN|apply Kd.R_drew));exact HO_9.out) hb);have n1_ := Aside0.mk (IsS81.below (by repeat (first|(with_reducible first|exact HI180.out|apply IsS81.alloc|apply IsS81.drewN|apply IsS81.drew|apply IsS81.set_0|apply IsS81.set_1|apply IsS81.set_2)|exact HI180.out)) hb);have n2_ := Aside0.mk (below_step (by repeat (first|(with_reducible first|exact HB.out|apply below_alloc|apply pw_below_drewN|apply below_drew1|refine below_set ?_ (IsS81.ge HI180.out))|exact HB.out)) hb);have n3_ := Aside0.mk (hbox);have n4_ := Aside0.mk ((by rw [hg];exact (below_size (by repeat (first|(with_reducible first|exact HB.out|apply below_alloc|apply pw_below_drewN|apply below_drew1|refine below_set ?_ (IsS81.ge HI180.out))|exact HB.out))) : w.heap.size ≤ gb196));have n5_ := Aside0.mk ((by rw [hg];exact (below_size (by repeat (first|(with_reducible first|exact HB.out|apply below_alloc|apply pw_below_drewN|apply below_drew1|refine below_set ?_ (IsS81.ge HI180.out))|exact HB.out))) : w.heap.size ≤ gb196));have n6_ := Aside0.mk ((by rw [hg];exact Nat.ne_of_lt (IsS81.lt (show IsS81 w _ g180 t193 t194 t195 from by repeat (first|(with_reducible first|exact HI180.out|apply IsS81.alloc|apply IsS81.drewN|apply IsS81.drew|apply IsS81.set_0|apply IsS81.set_1|apply IsS81.set_2)|exact HI180.out))) : g180 ≠ gb196));have n7_ := Aside0.mk ((by rw [hg];exact Nat.ne_of_gt (IsS81.lt (show IsS81 w _ g180 t193 t194 t195 from by repeat (first|(with_reducible first|exact HI180.out|apply IsS81.alloc|apply IsS81.drewN|apply IsS81.drew|apply IsS81.set_0|apply IsS81.set_1|apply IsS81.set_2)|exact HI180.out))) : gb196 ≠ g180));clear HO_9;clear HI180;clear HB;have HO_9 := n0_;have HI180 := n1_;have HB := n2_;have BK196 := n3_;have GW196 := n4_;have GE196 := n5_;have NB180_196 := n6_;have NB196_180 := n7_;clear n0_ n1_ n2_ n3_ n4_ n5_ n6_ n7_;clear hb hbox hg;have hnb21 := NB196_180.out;have hnc21 := NB180_196.out;have hcz22_0 : w20.cell? ⟨gb196,0,none⟩ = some (.bool false) := (blk_cell BK196.out 0).trans rfl;have hcz22_1 : w20.cell? ⟨gb196,1,none⟩ = some (.string (⟨#[]⟩ : ByteArray)) := (blk_cell BK196.out 1).trans rfl;have hcz22_2 : w20.cell? ⟨gb196,2,none⟩ = some (.int .i64 0) := (blk_cell BK196.out 2).trans rfl;have hcz22_3 : w20.cell? ⟨gb196,3,none⟩ = some (.int .i64 0) := (blk_cell BK196.out 3).trans rfl;have hfz22_0 := blk_frozen BK196.out 0;have hfz22_1 := blk_frozen BK196.out 1;have hfz22_2 := blk_frozen BK196.out 2;have hfz22_3 := blk_frozen BK196.out 3)|((with_reducible refine gate_callee (f := 37) rfl ?_);refine goesL_ (some 40) rfl rfl Try.func37 (by kernel_rfl) rfl #[.pointer (some ⟨g180,0,none⟩)] rfl (by (try simp only [List.map_toArray,List.map_cons,List.map_nil]);first|done|rfl|(simp only [List.length_drop,List.length_take];rfl)) ?_;(with_reducible refine (bits_Reader_Err.calls g180 t193 t194 t195 t197 t198 t199 t200 w _ ?side1 ?side2 A14.out).mono ?_);(case side1=>repeat (first|(with_reducible first|exact HI180.out|apply IsS81.alloc|apply IsS81.drewN|apply IsS81.drew|apply IsS81.set_0|apply IsS81.set_1|apply IsS81.set_2|refine IsS81.far ?_ NB180_196.out _)|exact HI180.out));(case side2=>repeat (first|(with_reducible first|exact HB.out|apply below_alloc|apply pw_below_drewN|apply below_drew1|refine below_set ?_ (IsS81.ge HI180.out)|refine below_set ?_ GE196.out)|exact HB.out));rintro e w23 ⟨rfl,hi,hb,hk⟩;refine ⟨_,rfl,?_⟩;have n0_ := Aside0.mk (Kd.R_mono (Kd.R_keep (IsS81.apart (show IsS81 w _ g180 t193 t194 t195 from by repeat (first|(with_reducible first|exact HI180.out|apply IsS81.alloc|apply IsS81.drewN|apply IsS81.drew|apply IsS81.set_0|apply IsS81.set_1|apply IsS81.set_2|refine IsS81.far ?_ NB180_196.out _)|exact HI180.out)) (by (with_reducible repeat (first|apply Kd.R_alloc|apply Kd.R_drewN|apply Kd.R_drew));exact (Kd.R_mono (Kd.R_far (p := ⟨gb196,3,none⟩) (Kd.R_far (p := ⟨gb196,2,none⟩) (Kd.R_far (p := ⟨gb196,1,none⟩) (Kd.R_far (p := ⟨gb196,0,none⟩) (Kd.R_types HO_9.out BK196.out (by decide)) (fun _ hk=>hk.2) (.bool t189)) (fun _ hk=>hk.2) (.string t190)) (fun _ hk=>hk.2) (.int .i64 t191)) (fun _ hk=>hk.2) (.int .i64 t192)) (fun _ h_=>h_.1))) (by decide)) hk (fun _ h=>h.2)) (fun _ h=>h.1));have n1_ := Aside0.mk (KeepBut.blk hk (g' := gb196) (o := .cells #[.bool t189,.string t190,.int .i64 t191,.int .i64 t192] 35 (0,0)) (by (with_reducible repeat (first|refine blk_drewN ?_ _|refine blk_drew ?_|refine blk_alloc ?_ _));refine blk_put (cs := #[.bool t189,.string t190,.int .i64 t191,.int .i64 0]) ?_ 3 _ rfl;(with_reducible repeat (first|refine blk_drewN ?_ _|refine blk_drew ?_|refine blk_alloc ?_ _));refine blk_put (cs := #[.bool t189,.string t190,.int .i64 0,.int .i64 0]) ?_ 2 _ rfl;(with_reducible repeat (first|refine blk_drewN ?_ _|refine blk_drew ?_|refine blk_alloc ?_ _));refine blk_put (cs := #[.bool t189,.string (⟨#[]⟩ : ByteArray),.int .i64 0,.int .i64 0]) ?_ 1 _ rfl;(with_reducible repeat (first|refine blk_drewN ?_ _|refine blk_drew ?_|refine blk_alloc ?_ _));refine blk_put (cs := #[.bool false,.string (⟨#[]⟩ : ByteArray),.int .i64 0,.int .i64 0]) ?_ 0 _ rfl;(with_reducible repeat (first|refine blk_drewN ?_ _|refine blk_drew ?_|refine blk_alloc ?_ _));exact BK196.out) NB196_180.out (by simp));have n2_ := Aside0.mk (hb);have n3_ := Aside0.mk (hi);clear HO_9;clear BK196;clear HB;clear HI180;have HO_9 := n0_;have BK196 := n1_;have HB := n2_;have HI180 := n3_;clear n0_ n1_ n2_ n3_;(try clear hb);(try clear hb2);(try clear hk);(try clear hi);have hcz24_0 : w23.cell? ⟨gb196,0,none⟩ = some (.bool t189) := (blk_cell BK196.out 0).trans rfl;have hcz24_1 : w23.cell? ⟨gb196,1,none⟩ = some (.string t190) := (blk_cell BK196.out 1).trans rfl;have hcz24_2 : w23.cell? ⟨gb196,2,none⟩ = some (.int .i64 t191) := (blk_cell BK196.out 2).trans rfl;have hcz24_3 : w23.cell? ⟨gb196,3,none⟩ = some (.int .i64 t192) := (blk_cell BK196.out 3).trans rfl;have hfz24_0 := blk_frozen BK196.out 0;have hfz24_1 := blk_frozen BK196.out 1;have hfz24_2 := blk_frozen BK196.out 2;have hfz24_3 := blk_frozen BK196.out 3;obtain ⟨Ao25,co25,eo25⟩ := Kd.R_slice HO_9.out;subst eo25))
          go_ret2
          exact ⟨by first|rfl|(simp [errW_none,errW_some] <;> rfl)|(simp [*,errW_none,errW_some] <;> rfl),by repeat (first|(with_reducible first|exact HB.out|apply below_alloc|apply pw_below_drewN|apply below_drew1|refine below_set ?_ (IsS81.ge HI180.out)|refine below_set ?_ GE196.out)|exact HB.out)⟩
         ·rw [if_neg c17] at H
          have c17b0 : decide ((wrap64 ((wrap64 (t175)) - (x9_1.length : Int))) < (t190.size : Int)) = false := decide_eq_false c17
          clear c17
          by_cases c26 : x9_1.length + t190.size < 140737488355328
          ·rw [if_pos c26] at H
           have LMc26 := Aside0.mk c26
           clear c26
           obtain ⟨y201,hy201⟩ : ∃ y_ : List Int,y_ = (x9_1 ++ bytesOf t190) := ⟨_,rfl⟩
           replace H : (snappy_Decode.l0 k1 t175 y201 t198 t199 t200) = some (r1,r2) := by first|(rw [hy201];with_reducible exact H)|(have H2_ := (Option.bind_some _ _).symm.trans H;rw [hy201];with_reducible exact H2_)|(have H2_ := (Option.bind_some _ _).symm.trans H;with_reducible exact H2_)|with_reducible exact H|(rw [hy201];exact H)|exact H
           have Ny201 := Aside0.mk hy201
           clear hy201
           have H' := Aside0.mk H
           clear H
           go_wp2_with (first|((with_reducible refine gate_callee (f := 35) rfl ?_);refine goesL_ (some 35) rfl rfl Try.func35 (by kernel_rfl) rfl #[.pointer (some ⟨g180,0,none⟩)] rfl (by (try simp only [List.map_toArray,List.map_cons,List.map_nil]);first|done|rfl|(simp only [List.length_drop,List.length_take];rfl)) ?_;(with_reducible refine (bits_Reader_Left.calls g180 x181000_1 x181001_1 x181002_1 t185 t186 t187 t188 w _ ?side1 ?side2 A11.out).mono ?_);(case side1=>repeat (first|(with_reducible first|exact HI180.out|apply IsS81.alloc|apply IsS81.drewN|apply IsS81.drew|apply IsS81.set_0|apply IsS81.set_1|apply IsS81.set_2)|exact HI180.out));(case side2=>repeat (first|(with_reducible first|exact HB.out|apply below_alloc|apply pw_below_drewN|apply below_drew1|refine below_set ?_ (IsS81.ge HI180.out))|exact HB.out));rintro e w27 ⟨rfl,hi,hb,hk⟩;refine ⟨_,rfl,?_⟩;have n0_ := Aside0.mk (Kd.R_mono (Kd.R_keep (IsS81.apart (show IsS81 w _ g180 x181000_1 x181001_1 x181002_1 from by repeat (first|(with_reducible first|exact HI180.out|apply IsS81.alloc|apply IsS81.drewN|apply IsS81.drew|apply IsS81.set_0|apply IsS81.set_1|apply IsS81.set_2)|exact HI180.out)) (by (with_reducible repeat (first|apply Kd.R_alloc|apply Kd.R_drewN|apply Kd.R_drew));exact HO_9.out) (by decide)) hk (fun _ h=>h.2)) (fun _ h=>h.1));have n1_ := Aside0.mk (hb);have n2_ := Aside0.mk (hi);clear HO_9;clear HB;clear HI180;have HO_9 := n0_;have HB := n1_;have HI180 := n2_;clear n0_ n1_ n2_;(try clear hb);(try clear hb2);(try clear hk);(try clear hi))|((with_reducible refine gate_callee (f := 36) rfl ?_);refine goesL_ (some 38) rfl rfl Try.func36 (by kernel_rfl) rfl #[.pointer (some ⟨g180,0,none⟩)] rfl (by (try simp only [List.map_toArray,List.map_cons,List.map_nil]);first|done|rfl|(simp only [List.length_drop,List.length_take];rfl)) ?_;(with_reducible refine (snappy_next.calls k1 g180 t186 t187 t188 t189 t190 t191 t192 t193 t194 t195 w _ ?side1 ?side2 A13.out).mono ?_);(case side1=>repeat (first|(with_reducible first|exact HI180.out|apply IsS81.alloc|apply IsS81.drewN|apply IsS81.drew|apply IsS81.set_0|apply IsS81.set_1|apply IsS81.set_2)|exact HI180.out));(case side2=>repeat (first|(with_reducible first|exact HB.out|apply below_alloc|apply pw_below_drewN|apply below_drew1|refine below_set ?_ (IsS81.ge HI180.out))|exact HB.out));rintro e w28 ⟨rfl,hi,hb,hk⟩;refine ⟨_,rfl,?_⟩;have n0_ := Aside0.mk (Kd.R_mono (Kd.R_keep (IsS81.apart (show IsS81 w _ g180 t186 t187 t188 from by repeat (first|(with_reducible first|exact HI180.out|apply IsS81.alloc|apply IsS81.drewN|apply IsS81.drew|apply IsS81.set_0|apply IsS81.set_1|apply IsS81.set_2)|exact HI180.out)) (by (with_reducible repeat (first|apply Kd.R_alloc|apply Kd.R_drewN|apply Kd.R_drew));exact HO_9.out) (by decide)) hk (fun _ h=>h.2)) (fun _ h=>h.1));have n1_ := Aside0.mk (hb);have n2_ := Aside0.mk (hi);clear HO_9;clear HB;clear HI180;have HO_9 := n0_;have HB := n1_;have HI180 := n2_;clear n0_ n1_ n2_;(try clear hb);(try clear hb2);(try clear hk);(try clear hi))|((with_reducible refine gate_dst (N := 10) rfl ?_);refine box_event ?hg (N := 10) ?hd (cs := #[.bool false,.string (⟨#[]⟩ : ByteArray),.int .i64 0,.int .i64 0]) (t := 35) ?hr ?_;(case hd=>rfl);(case hg=>rfl);(case hr=>first|(go_simp;done)|(go_simp;rfl)|(go_simp;simp [my_u8w];done));intro gb196 hg w29 hbox hb;have n0_ := Aside0.mk (Kd.R_below (by (with_reducible repeat (first|apply Kd.R_alloc|apply Kd.R_drewN|apply Kd.R_drew));exact HO_9.out) hb);have n1_ := Aside0.mk (IsS81.below (by repeat (first|(with_reducible first|exact HI180.out|apply IsS81.alloc|apply IsS81.drewN|apply IsS81.drew|apply IsS81.set_0|apply IsS81.set_1|apply IsS81.set_2)|exact HI180.out)) hb);have n2_ := Aside0.mk (below_step (by repeat (first|(with_reducible first|exact HB.out|apply below_alloc|apply pw_below_drewN|apply below_drew1|refine below_set ?_ (IsS81.ge HI180.out))|exact HB.out)) hb);have n3_ := Aside0.mk (hbox);have n4_ := Aside0.mk ((by rw [hg];exact (below_size (by repeat (first|(with_reducible first|exact HB.out|apply below_alloc|apply pw_below_drewN|apply below_drew1|refine below_set ?_ (IsS81.ge HI180.out))|exact HB.out))) : w.heap.size ≤ gb196));have n5_ := Aside0.mk ((by rw [hg];exact (below_size (by repeat (first|(with_reducible first|exact HB.out|apply below_alloc|apply pw_below_drewN|apply below_drew1|refine below_set ?_ (IsS81.ge HI180.out))|exact HB.out))) : w.heap.size ≤ gb196));have n6_ := Aside0.mk ((by rw [hg];exact Nat.ne_of_lt (IsS81.lt (show IsS81 w _ g180 t193 t194 t195 from by repeat (first|(with_reducible first|exact HI180.out|apply IsS81.alloc|apply IsS81.drewN|apply IsS81.drew|apply IsS81.set_0|apply IsS81.set_1|apply IsS81.set_2)|exact HI180.out))) : g180 ≠ gb196));have n7_ := Aside0.mk ((by rw [hg];exact Nat.ne_of_gt (IsS81.lt (show IsS81 w _ g180 t193 t194 t195 from by repeat (first|(with_reducible first|exact HI180.out|apply IsS81.alloc|apply IsS81.drewN|apply IsS81.drew|apply IsS81.set_0|apply IsS81.set_1|apply IsS81.set_2)|exact HI180.out))) : gb196 ≠ g180));clear HO_9;clear HI180;clear HB;have HO_9 := n0_;have HI180 := n1_;have HB := n2_;have BK196 := n3_;have GW196 := n4_;have GE196 := n5_;have NB180_196 := n6_;have NB196_180 := n7_;clear n0_ n1_ n2_ n3_ n4_ n5_ n6_ n7_;clear hb hbox hg;have hnb30 := NB196_180.out;have hnc30 := NB180_196.out;have hcz31_0 : w29.cell? ⟨gb196,0,none⟩ = some (.bool false) := (blk_cell BK196.out 0).trans rfl;have hcz31_1 : w29.cell? ⟨gb196,1,none⟩ = some (.string (⟨#[]⟩ : ByteArray)) := (blk_cell BK196.out 1).trans rfl;have hcz31_2 : w29.cell? ⟨gb196,2,none⟩ = some (.int .i64 0) := (blk_cell BK196.out 2).trans rfl;have hcz31_3 : w29.cell? ⟨gb196,3,none⟩ = some (.int .i64 0) := (blk_cell BK196.out 3).trans rfl;have hfz31_0 := blk_frozen BK196.out 0;have hfz31_1 := blk_frozen BK196.out 1;have hfz31_2 := blk_frozen BK196.out 2;have hfz31_3 := blk_frozen BK196.out 3)|((with_reducible refine gate_callee (f := 37) rfl ?_);refine goesL_ (some 40) rfl rfl Try.func37 (by kernel_rfl) rfl #[.pointer (some ⟨g180,0,none⟩)] rfl (by (try simp only [List.map_toArray,List.map_cons,List.map_nil]);first|done|rfl|(simp only [List.length_drop,List.length_take];rfl)) ?_;(with_reducible refine (bits_Reader_Err.calls g180 t193 t194 t195 t197 t198 t199 t200 w _ ?side1 ?side2 A14.out).mono ?_);(case side1=>repeat (first|(with_reducible first|exact HI180.out|apply IsS81.alloc|apply IsS81.drewN|apply IsS81.drew|apply IsS81.set_0|apply IsS81.set_1|apply IsS81.set_2|refine IsS81.far ?_ NB180_196.out _)|exact HI180.out));(case side2=>repeat (first|(with_reducible first|exact HB.out|apply below_alloc|apply pw_below_drewN|apply below_drew1|refine below_set ?_ (IsS81.ge HI180.out)|refine below_set ?_ GE196.out)|exact HB.out));rintro e w32 ⟨rfl,hi,hb,hk⟩;refine ⟨_,rfl,?_⟩;have n0_ := Aside0.mk (Kd.R_mono (Kd.R_keep (IsS81.apart (show IsS81 w _ g180 t193 t194 t195 from by repeat (first|(with_reducible first|exact HI180.out|apply IsS81.alloc|apply IsS81.drewN|apply IsS81.drew|apply IsS81.set_0|apply IsS81.set_1|apply IsS81.set_2|refine IsS81.far ?_ NB180_196.out _)|exact HI180.out)) (by (with_reducible repeat (first|apply Kd.R_alloc|apply Kd.R_drewN|apply Kd.R_drew));exact (Kd.R_mono (Kd.R_far (p := ⟨gb196,3,none⟩) (Kd.R_far (p := ⟨gb196,2,none⟩) (Kd.R_far (p := ⟨gb196,1,none⟩) (Kd.R_far (p := ⟨gb196,0,none⟩) (Kd.R_types HO_9.out BK196.out (by decide)) (fun _ hk=>hk.2) (.bool t189)) (fun _ hk=>hk.2) (.string t190)) (fun _ hk=>hk.2) (.int .i64 t191)) (fun _ hk=>hk.2) (.int .i64 t192)) (fun _ h_=>h_.1))) (by decide)) hk (fun _ h=>h.2)) (fun _ h=>h.1));have n1_ := Aside0.mk (KeepBut.blk hk (g' := gb196) (o := .cells #[.bool t189,.string t190,.int .i64 t191,.int .i64 t192] 35 (0,0)) (by (with_reducible repeat (first|refine blk_drewN ?_ _|refine blk_drew ?_|refine blk_alloc ?_ _));refine blk_put (cs := #[.bool t189,.string t190,.int .i64 t191,.int .i64 0]) ?_ 3 _ rfl;(with_reducible repeat (first|refine blk_drewN ?_ _|refine blk_drew ?_|refine blk_alloc ?_ _));refine blk_put (cs := #[.bool t189,.string t190,.int .i64 0,.int .i64 0]) ?_ 2 _ rfl;(with_reducible repeat (first|refine blk_drewN ?_ _|refine blk_drew ?_|refine blk_alloc ?_ _));refine blk_put (cs := #[.bool t189,.string (⟨#[]⟩ : ByteArray),.int .i64 0,.int .i64 0]) ?_ 1 _ rfl;(with_reducible repeat (first|refine blk_drewN ?_ _|refine blk_drew ?_|refine blk_alloc ?_ _));refine blk_put (cs := #[.bool false,.string (⟨#[]⟩ : ByteArray),.int .i64 0,.int .i64 0]) ?_ 0 _ rfl;(with_reducible repeat (first|refine blk_drewN ?_ _|refine blk_drew ?_|refine blk_alloc ?_ _));exact BK196.out) NB196_180.out (by simp));have n2_ := Aside0.mk (hb);have n3_ := Aside0.mk (hi);clear HO_9;clear BK196;clear HB;clear HI180;have HO_9 := n0_;have BK196 := n1_;have HB := n2_;have HI180 := n3_;clear n0_ n1_ n2_ n3_;(try clear hb);(try clear hb2);(try clear hk);(try clear hi);have hcz33_0 : w32.cell? ⟨gb196,0,none⟩ = some (.bool t189) := (blk_cell BK196.out 0).trans rfl;have hcz33_1 : w32.cell? ⟨gb196,1,none⟩ = some (.string t190) := (blk_cell BK196.out 1).trans rfl;have hcz33_2 : w32.cell? ⟨gb196,2,none⟩ = some (.int .i64 t191) := (blk_cell BK196.out 2).trans rfl;have hcz33_3 : w32.cell? ⟨gb196,3,none⟩ = some (.int .i64 t192) := (blk_cell BK196.out 3).trans rfl;have hfz33_0 := blk_frozen BK196.out 0;have hfz33_1 := blk_frozen BK196.out 1;have hfz33_2 := blk_frozen BK196.out 2;have hfz33_3 := blk_frozen BK196.out 3;obtain ⟨Ao34,co34,eo34⟩ := Kd.R_slice HO_9.out;subst eo34)|(at_builtin;refine my_append_str (w0 := w) w.heap.size rfl (.tmp 57) _ 28 9 5 rfl Try.underlying28 Try.underlying9 info5 (.slice Ao34 x9_1.length co34) x9_1 t190 (fun _=>True) rfl rfl ?aO ?aF ?aB ?aS ?aL ?_;(case aB=>exact (by repeat (first|(with_reducible first|exact HB.out|apply below_alloc|apply pw_below_drewN|apply below_drew1|refine below_set ?_ (IsS81.ge HI180.out)|refine below_set ?_ GE196.out)|exact HB.out)));(case aF=>exact (fun _ _=>trivial));(case aO=>exact (by (with_reducible repeat (first|apply Kd.R_alloc|apply Kd.R_drewN|apply Kd.R_drew));exact HO_9.out));(case aS=>exact (below_size (by repeat (first|(with_reducible first|exact HB.out|apply below_alloc|apply pw_below_drewN|apply below_drew1|refine below_set ?_ (IsS81.ge HI180.out)|refine below_set ?_ GE196.out)|exact HB.out))));(case aL=>have := LMc26.out;omega);intro v202 w35 ho hb hg hat;rw [← Ny201.out] at ho;have n0_ := Aside0.mk (IsS81.grown (by repeat (first|(with_reducible first|exact HI180.out|apply IsS81.alloc|apply IsS81.drewN|apply IsS81.drew|apply IsS81.set_0|apply IsS81.set_1|apply IsS81.set_2|refine IsS81.far ?_ NB180_196.out _)|exact HI180.out)) hg (IsS81.own_ne HI180.out HO_9.out (by decide)));have n1_ := Aside0.mk (blk_grown (g := gb196) (o := .cells #[.bool t189,.string t190,.int .i64 t191,.int .i64 t192] 35 (0,0)) (by (with_reducible repeat (first|refine blk_drewN ?_ _|refine blk_drew ?_|refine blk_alloc ?_ _));exact BK196.out) hg (Kd.R_ne HO_9.out BK196.out (by decide)));have n2_ := Aside0.mk (hb);have n3_ := Aside0.mk (ho);clear HI180;clear BK196;clear HB;clear HO_9;have HI180 := n0_;have BK196 := n1_;have HB := n2_;have HO203 := n3_;clear n0_ n1_ n2_ n3_;clear ho hb hg hat))
           go_roundg k1
           case measure=>have := HK1.out;omega
           case rel=>exact ⟨(y201),(t198),(t199),(t200),H',⟨by have := HK1.out;omega⟩,⟨by (with_reducible repeat (first|apply Kd.R_alloc|apply Kd.R_drewN|apply Kd.R_drew));exact HO203.out⟩,⟨by repeat (first|(with_reducible first|exact HI180.out|apply IsS81.alloc|apply IsS81.drewN|apply IsS81.drew|apply IsS81.set_0|apply IsS81.set_1|apply IsS81.set_2|refine IsS81.far ?_ NB180_196.out _)|exact HI180.out)⟩,⟨by repeat (first|(with_reducible first|exact HB.out|apply below_alloc|apply pw_below_drewN|apply below_drew1|refine below_set ?_ (IsS81.ge HI180.out)|refine below_set ?_ GE196.out)|exact HB.out)⟩⟩
          ·rw [if_neg c26] at H
           exact absurd H (by simp)
        ·rw [if_neg c16] at H
         have c16b0 : decide (65536 < (t190.size : Int)) = false := decide_eq_false c16
         have c16b1 : decide (65536 < t190.size) = false := decide_eq_false (by omega)
         clear c16
         replace H := Option.bind_eq_some_iff.mp H
         obtain ⟨⟨t204,t207⟩,A360,H⟩ := H
         replace H : (if t207 = 0 then (snappy_Decode.l0 k1 t175 t204 t198 t199 t200) else (some ((⟨#[]⟩ : ByteArray),4))) = some (r1,r2) := H
         have A36 := Aside0.mk A360
         clear A360
         by_cases c37 : t207 = 0
         ·rw [if_pos c37] at H
          have c37b0 : (t207 == 0) = true := beq_iff_eq.mpr c37
          have c37b1 : (t207 != 0) = false := bne_eq_false_iff_eq.mpr c37
          clear c37
          have H' := Aside0.mk H
          clear H
          go_wp2_with (first|((with_reducible refine gate_callee (f := 35) rfl ?_);refine goesL_ (some 35) rfl rfl Try.func35 (by kernel_rfl) rfl #[.pointer (some ⟨g180,0,none⟩)] rfl (by (try simp only [List.map_toArray,List.map_cons,List.map_nil]);first|done|rfl|(simp only [List.length_drop,List.length_take];rfl)) ?_;(with_reducible refine (bits_Reader_Left.calls g180 x181000_1 x181001_1 x181002_1 t185 t186 t187 t188 w _ ?side1 ?side2 A11.out).mono ?_);(case side1=>repeat (first|(with_reducible first|exact HI180.out|apply IsS81.alloc|apply IsS81.drewN|apply IsS81.drew|apply IsS81.set_0|apply IsS81.set_1|apply IsS81.set_2)|exact HI180.out));(case side2=>repeat (first|(with_reducible first|exact HB.out|apply below_alloc|apply pw_below_drewN|apply below_drew1|refine below_set ?_ (IsS81.ge HI180.out))|exact HB.out));rintro e w38 ⟨rfl,hi,hb,hk⟩;refine ⟨_,rfl,?_⟩;have n0_ := Aside0.mk (Kd.R_mono (Kd.R_keep (IsS81.apart (show IsS81 w _ g180 x181000_1 x181001_1 x181002_1 from by repeat (first|(with_reducible first|exact HI180.out|apply IsS81.alloc|apply IsS81.drewN|apply IsS81.drew|apply IsS81.set_0|apply IsS81.set_1|apply IsS81.set_2)|exact HI180.out)) (by (with_reducible repeat (first|apply Kd.R_alloc|apply Kd.R_drewN|apply Kd.R_drew));exact HO_9.out) (by decide)) hk (fun _ h=>h.2)) (fun _ h=>h.1));have n1_ := Aside0.mk (hb);have n2_ := Aside0.mk (hi);clear HO_9;clear HB;clear HI180;have HO_9 := n0_;have HB := n1_;have HI180 := n2_;clear n0_ n1_ n2_;(try clear hb);(try clear hb2);(try clear hk);(try clear hi))|((with_reducible refine gate_callee (f := 36) rfl ?_);refine goesL_ (some 38) rfl rfl Try.func36 (by kernel_rfl) rfl #[.pointer (some ⟨g180,0,none⟩)] rfl (by (try simp only [List.map_toArray,List.map_cons,List.map_nil]);first|done|rfl|(simp only [List.length_drop,List.length_take];rfl)) ?_;(with_reducible refine (snappy_next.calls k1 g180 t186 t187 t188 t189 t190 t191 t192 t193 t194 t195 w _ ?side1 ?side2 A13.out).mono ?_);(case side1=>repeat (first|(with_reducible first|exact HI180.out|apply IsS81.alloc|apply IsS81.drewN|apply IsS81.drew|apply IsS81.set_0|apply IsS81.set_1|apply IsS81.set_2)|exact HI180.out));(case side2=>repeat (first|(with_reducible first|exact HB.out|apply below_alloc|apply pw_below_drewN|apply below_drew1|refine below_set ?_ (IsS81.ge HI180.out))|exact HB.out));rintro e w39 ⟨rfl,hi,hb,hk⟩;refine ⟨_,rfl,?_⟩;have n0_ := Aside0.mk (Kd.R_mono (Kd.R_keep (IsS81.apart (show IsS81 w _ g180 t186 t187 t188 from by repeat (first|(with_reducible first|exact HI180.out|apply IsS81.alloc|apply IsS81.drewN|apply IsS81.drew|apply IsS81.set_0|apply IsS81.set_1|apply IsS81.set_2)|exact HI180.out)) (by (with_reducible repeat (first|apply Kd.R_alloc|apply Kd.R_drewN|apply Kd.R_drew));exact HO_9.out) (by decide)) hk (fun _ h=>h.2)) (fun _ h=>h.1));have n1_ := Aside0.mk (hb);have n2_ := Aside0.mk (hi);clear HO_9;clear HB;clear HI180;have HO_9 := n0_;have HB := n1_;have HI180 := n2_;clear n0_ n1_ n2_;(try clear hb);(try clear hb2);(try clear hk);(try clear hi))|((with_reducible refine gate_dst (N := 10) rfl ?_);refine box_event ?hg (N := 10) ?hd (cs := #[.bool false,.string (⟨#[]⟩ : ByteArray),.int .i64 0,.int .i64 0]) (t := 35) ?hr ?_;(case hd=>rfl);(case hg=>rfl);(case hr=>first|(go_simp;done)|(go_simp;rfl)|(go_simp;simp [my_u8w];done));intro gb196 hg w40 hbox hb;have n0_ := Aside0.mk (Kd.R_below (by (with_reducible repeat (first|apply Kd.R_alloc|apply Kd.R_drewN|apply Kd.R_drew));exact HO_9.out) hb);have n1_ := Aside0.mk (IsS81.below (by repeat (first|(with_reducible first|exact HI180.out|apply IsS81.alloc|apply IsS81.drewN|apply IsS81.drew|apply IsS81.set_0|apply IsS81.set_1|apply IsS81.set_2)|exact HI180.out)) hb);have n2_ := Aside0.mk (below_step (by repeat (first|(with_reducible first|exact HB.out|apply below_alloc|apply pw_below_drewN|apply below_drew1|refine below_set ?_ (IsS81.ge HI180.out))|exact HB.out)) hb);have n3_ := Aside0.mk (hbox);have n4_ := Aside0.mk ((by rw [hg];exact (below_size (by repeat (first|(with_reducible first|exact HB.out|apply below_alloc|apply pw_below_drewN|apply below_drew1|refine below_set ?_ (IsS81.ge HI180.out))|exact HB.out))) : w.heap.size ≤ gb196));have n5_ := Aside0.mk ((by rw [hg];exact (below_size (by repeat (first|(with_reducible first|exact HB.out|apply below_alloc|apply pw_below_drewN|apply below_drew1|refine below_set ?_ (IsS81.ge HI180.out))|exact HB.out))) : w.heap.size ≤ gb196));have n6_ := Aside0.mk ((by rw [hg];exact Nat.ne_of_lt (IsS81.lt (show IsS81 w _ g180 t193 t194 t195 from by repeat (first|(with_reducible first|exact HI180.out|apply IsS81.alloc|apply IsS81.drewN|apply IsS81.drew|apply IsS81.set_0|apply IsS81.set_1|apply IsS81.set_2)|exact HI180.out))) : g180 ≠ gb196));have n7_ := Aside0.mk ((by rw [hg];exact Nat.ne_of_gt (IsS81.lt (show IsS81 w _ g180 t193 t194 t195 from by repeat (first|(with_reducible first|exact HI180.out|apply IsS81.alloc|apply IsS81.drewN|apply IsS81.drew|apply IsS81.set_0|apply IsS81.set_1|apply IsS81.set_2)|exact HI180.out))) : gb196 ≠ g180));clear HO_9;clear HI180;clear HB;have HO_9 := n0_;have HI180 := n1_;have HB := n2_;have BK196 := n3_;have GW196 := n4_;have GE196 := n5_;have NB180_196 := n6_;have NB196_180 := n7_;clear n0_ n1_ n2_ n3_ n4_ n5_ n6_ n7_;clear hb hbox hg;have hnb41 := NB196_180.out;have hnc41 := NB180_196.out;have hcz42_0 : w40.cell? ⟨gb196,0,none⟩ = some (.bool false) := (blk_cell BK196.out 0).trans rfl;have hcz42_1 : w40.cell? ⟨gb196,1,none⟩ = some (.string (⟨#[]⟩ : ByteArray)) := (blk_cell BK196.out 1).trans rfl;have hcz42_2 : w40.cell? ⟨gb196,2,none⟩ = some (.int .i64 0) := (blk_cell BK196.out 2).trans rfl;have hcz42_3 : w40.cell? ⟨gb196,3,none⟩ = some (.int .i64 0) := (blk_cell BK196.out 3).trans rfl;have hfz42_0 := blk_frozen BK196.out 0;have hfz42_1 := blk_frozen BK196.out 1;have hfz42_2 := blk_frozen BK196.out 2;have hfz42_3 := blk_frozen BK196.out 3)|((with_reducible refine gate_callee (f := 37) rfl ?_);refine goesL_ (some 40) rfl rfl Try.func37 (by kernel_rfl) rfl #[.pointer (some ⟨g180,0,none⟩)] rfl (by (try simp only [List.map_toArray,List.map_cons,List.map_nil]);first|done|rfl|(simp only [List.length_drop,List.length_take];rfl)) ?_;(with_reducible refine (bits_Reader_Err.calls g180 t193 t194 t195 t197 t198 t199 t200 w _ ?side1 ?side2 A14.out).mono ?_);(case side1=>repeat (first|(with_reducible first|exact HI180.out|apply IsS81.alloc|apply IsS81.drewN|apply IsS81.drew|apply IsS81.set_0|apply IsS81.set_1|apply IsS81.set_2|refine IsS81.far ?_ NB180_196.out _)|exact HI180.out));(case side2=>repeat (first|(with_reducible first|exact HB.out|apply below_alloc|apply pw_below_drewN|apply below_drew1|refine below_set ?_ (IsS81.ge HI180.out)|refine below_set ?_ GE196.out)|exact HB.out));rintro e w43 ⟨rfl,hi,hb,hk⟩;refine ⟨_,rfl,?_⟩;have n0_ := Aside0.mk (Kd.R_mono (Kd.R_keep (IsS81.apart (show IsS81 w _ g180 t193 t194 t195 from by repeat (first|(with_reducible first|exact HI180.out|apply IsS81.alloc|apply IsS81.drewN|apply IsS81.drew|apply IsS81.set_0|apply IsS81.set_1|apply IsS81.set_2|refine IsS81.far ?_ NB180_196.out _)|exact HI180.out)) (by (with_reducible repeat (first|apply Kd.R_alloc|apply Kd.R_drewN|apply Kd.R_drew));exact (Kd.R_mono (Kd.R_far (p := ⟨gb196,3,none⟩) (Kd.R_far (p := ⟨gb196,2,none⟩) (Kd.R_far (p := ⟨gb196,1,none⟩) (Kd.R_far (p := ⟨gb196,0,none⟩) (Kd.R_types HO_9.out BK196.out (by decide)) (fun _ hk=>hk.2) (.bool t189)) (fun _ hk=>hk.2) (.string t190)) (fun _ hk=>hk.2) (.int .i64 t191)) (fun _ hk=>hk.2) (.int .i64 t192)) (fun _ h_=>h_.1))) (by decide)) hk (fun _ h=>h.2)) (fun _ h=>h.1));have n1_ := Aside0.mk (KeepBut.blk hk (g' := gb196) (o := .cells #[.bool t189,.string t190,.int .i64 t191,.int .i64 t192] 35 (0,0)) (by (with_reducible repeat (first|refine blk_drewN ?_ _|refine blk_drew ?_|refine blk_alloc ?_ _));refine blk_put (cs := #[.bool t189,.string t190,.int .i64 t191,.int .i64 0]) ?_ 3 _ rfl;(with_reducible repeat (first|refine blk_drewN ?_ _|refine blk_drew ?_|refine blk_alloc ?_ _));refine blk_put (cs := #[.bool t189,.string t190,.int .i64 0,.int .i64 0]) ?_ 2 _ rfl;(with_reducible repeat (first|refine blk_drewN ?_ _|refine blk_drew ?_|refine blk_alloc ?_ _));refine blk_put (cs := #[.bool t189,.string (⟨#[]⟩ : ByteArray),.int .i64 0,.int .i64 0]) ?_ 1 _ rfl;(with_reducible repeat (first|refine blk_drewN ?_ _|refine blk_drew ?_|refine blk_alloc ?_ _));refine blk_put (cs := #[.bool false,.string (⟨#[]⟩ : ByteArray),.int .i64 0,.int .i64 0]) ?_ 0 _ rfl;(with_reducible repeat (first|refine blk_drewN ?_ _|refine blk_drew ?_|refine blk_alloc ?_ _));exact BK196.out) NB196_180.out (by simp));have n2_ := Aside0.mk (hb);have n3_ := Aside0.mk (hi);clear HO_9;clear BK196;clear HB;clear HI180;have HO_9 := n0_;have BK196 := n1_;have HB := n2_;have HI180 := n3_;clear n0_ n1_ n2_ n3_;(try clear hb);(try clear hb2);(try clear hk);(try clear hi);have hcz44_0 : w43.cell? ⟨gb196,0,none⟩ = some (.bool t189) := (blk_cell BK196.out 0).trans rfl;have hcz44_1 : w43.cell? ⟨gb196,1,none⟩ = some (.string t190) := (blk_cell BK196.out 1).trans rfl;have hcz44_2 : w43.cell? ⟨gb196,2,none⟩ = some (.int .i64 t191) := (blk_cell BK196.out 2).trans rfl;have hcz44_3 : w43.cell? ⟨gb196,3,none⟩ = some (.int .i64 t192) := (blk_cell BK196.out 3).trans rfl;have hfz44_0 := blk_frozen BK196.out 0;have hfz44_1 := blk_frozen BK196.out 1;have hfz44_2 := blk_frozen BK196.out 2;have hfz44_3 := blk_frozen BK196.out 3;obtain ⟨Ao45,co45,eo45⟩ := Kd.R_slice HO_9.out;subst eo45)|((with_reducible refine gate_callee (f := 38) rfl ?_);refine goesL_ (some 66) rfl rfl Try.func38 (by kernel_rfl) rfl #[.agg #[.bool t189,.string t190,.int .i64 t191,.int .i64 t192],.slice Ao45 x9_1.length co45,.int .i64 (wrap64 (t175))] rfl (by (try simp only [List.map_toArray,List.map_cons,List.map_nil]);first|done|rfl|(simp only [List.length_drop,List.length_take];rfl)) ?_;(with_reducible refine (snappy_Part_add.calls k1 t189 t190 t191 t192 (fun k_=>some k_ = (.slice Ao45 x9_1.length co45 : Value).ownBlock) (.slice Ao45 x9_1.length co45) x9_1 (wrap64 (t175)) t204 t207 w _ ?side1 ?side2 A36.out).mono ?_);(case side1=>repeat (first|(with_reducible first|exact HB.out|apply below_alloc|apply pw_below_drewN|apply below_drew1|refine below_set ?_ (IsS81.ge HI180.out)|refine below_set ?_ GE196.out)|exact HB.out));(case side2=>exact Kd.R_tight rfl HO_9.out);rintro e w46 ⟨v205,rfl,ho0,hb,hkp⟩;refine ⟨_,rfl,?_⟩;have n0_ := Aside0.mk (IsS81.kept (by repeat (first|(with_reducible first|exact HI180.out|apply IsS81.alloc|apply IsS81.drewN|apply IsS81.drew|apply IsS81.set_0|apply IsS81.set_1|apply IsS81.set_2|refine IsS81.far ?_ NB180_196.out _)|exact HI180.out)) hkp (fun hs_=>(fun e_=>(IsS81.own_ne HI180.out HO_9.out (by decide)) e_) hs_));have n1_ := Aside0.mk (blk_kept (by (with_reducible repeat (first|refine blk_drewN ?_ _|refine blk_drew ?_|refine blk_alloc ?_ _));exact BK196.out) hkp (fun hs_=>(fun e_=>(Kd.R_ne HO_9.out BK196.out (by decide)) e_) hs_));have n2_ := Aside0.mk (Kd.R_mono (ok' := fun k_=>True) ho0 (fun k_ hk_=>trivial));have n3_ := Aside0.mk (hb);clear HI180;clear BK196;clear HB;clear HO_9;have HI180 := n0_;have BK196 := n1_;have HO206 := n2_;have HB := n3_;clear n0_ n1_ n2_ n3_;(try clear hb);(try clear hkp);(try clear ho0)))
          go_roundg k1
          case measure=>have := HK1.out;omega
          case rel=>exact ⟨(t204),(t198),(t199),(t200),H',⟨by have := HK1.out;omega⟩,⟨by (with_reducible repeat (first|apply Kd.R_alloc|apply Kd.R_drewN|apply Kd.R_drew));exact HO206.out⟩,⟨by repeat (first|(with_reducible first|exact HI180.out|apply IsS81.alloc|apply IsS81.drewN|apply IsS81.drew|apply IsS81.set_0|apply IsS81.set_1|apply IsS81.set_2|refine IsS81.far ?_ NB180_196.out _)|exact HI180.out)⟩,⟨by repeat (first|(with_reducible first|exact HB.out|apply below_alloc|apply pw_below_drewN|apply below_drew1|refine below_set ?_ (IsS81.ge HI180.out)|refine below_set ?_ GE196.out)|exact HB.out)⟩⟩
         ·rw [if_neg c37] at H
          have c37b0 : (t207 == 0) = false := beq_eq_false_iff_ne.mpr c37
          have c37b1 : (t207 != 0) = true := bne_iff_ne.mpr c37
          simp only [Option.some.injEq,Prod.mk.injEq] at H
          obtain ⟨rfl,rfl⟩ := H
          go_wp2_with (first|((with_reducible refine gate_callee (f := 35) rfl ?_);refine goesL_ (some 35) rfl rfl Try.func35 (by kernel_rfl) rfl #[.pointer (some ⟨g180,0,none⟩)] rfl (by (try simp only [List.map_toArray,List.map_cons,List.map_nil]);first|done|rfl|(simp only [List.length_drop,List.length_take];rfl)) ?_;(with_reducible refine (bits_Reader_Left.calls g180 x181000_1 x181001_1 x181002_1 t185 t186 t187 t188 w _ ?side1 ?side2 A11.out).mono ?_);(case side1=>repeat (first|(with_reducible first|exact HI180.out|apply IsS81.alloc|apply IsS81.drewN|apply IsS81.drew|apply IsS81.set_0|apply IsS81.set_1|apply IsS81.set_2)|exact HI180.out));(case side2=>repeat (first|(with_reducible first|exact HB.out|apply below_alloc|apply pw_below_drewN|apply below_drew1|refine below_set ?_ (IsS81.ge HI180.out))|exact HB.out));rintro e w47 ⟨rfl,hi,hb,hk⟩;refine ⟨_,rfl,?_⟩;have n0_ := Aside0.mk (Kd.R_mono (Kd.R_keep (IsS81.apart (show IsS81 w _ g180 x181000_1 x181001_1 x181002_1 from by repeat (first|(with_reducible first|exact HI180.out|apply IsS81.alloc|apply IsS81.drewN|apply IsS81.drew|apply IsS81.set_0|apply IsS81.set_1|apply IsS81.set_2)|exact HI180.out)) (by (with_reducible repeat (first|apply Kd.R_alloc|apply Kd.R_drewN|apply Kd.R_drew));exact HO_9.out) (by decide)) hk (fun _ h=>h.2)) (fun _ h=>h.1));have n1_ := Aside0.mk (hb);have n2_ := Aside0.mk (hi);clear HO_9;clear HB;clear HI180;have HO_9 := n0_;have HB := n1_;have HI180 := n2_;clear n0_ n1_ n2_;(try clear hb);(try clear hb2);(try clear hk);(try clear hi))|((with_reducible refine gate_callee (f := 36) rfl ?_);refine goesL_ (some 38) rfl rfl Try.func36 (by kernel_rfl) rfl #[.pointer (some ⟨g180,0,none⟩)] rfl (by (try simp only [List.map_toArray,List.map_cons,List.map_nil]);first|done|rfl|(simp only [List.length_drop,List.length_take];rfl)) ?_;(with_reducible refine (snappy_next.calls k1 g180 t186 t187 t188 t189 t190 t191 t192 t193 t194 t195 w _ ?side1 ?side2 A13.out).mono ?_);(case side1=>repeat (first|(with_reducible first|exact HI180.out|apply IsS81.alloc|apply IsS81.drewN|apply IsS81.drew|apply IsS81.set_0|apply IsS81.set_1|apply IsS81.set_2)|exact HI180.out));(case side2=>repeat (first|(with_reducible first|exact HB.out|apply below_alloc|apply pw_below_drewN|apply below_drew1|refine below_set ?_ (IsS81.ge HI180.out))|exact HB.out));rintro e w48 ⟨rfl,hi,hb,hk⟩;refine ⟨_,rfl,?_⟩;have n0_ := Aside0.mk (Kd.R_mono (Kd.R_keep (IsS81.apart (show IsS81 w _ g180 t186 t187 t188 from by repeat (first|(with_reducible first|exact HI180.out|apply IsS81.alloc|apply IsS81.drewN|apply IsS81.drew|apply IsS81.set_0|apply IsS81.set_1|apply IsS81.set_2)|exact HI180.out)) (by (with_reducible repeat (first|apply Kd.R_alloc|apply Kd.R_drewN|apply Kd.R_drew));exact HO_9.out) (by decide)) hk (fun _ h=>h.2)) (fun _ h=>h.1));have n1_ := Aside0.mk (hb);have n2_ := Aside0.mk (hi);clear HO_9;clear HB;clear HI180;have HO_9 := n0_;have HB := n1_;have HI180 := n2_;clear n0_ n1_ n2_;(try clear hb);(try clear hb2);(try clear hk);(try clear hi))|((with_reducible refine gate_dst (N := 10) rfl ?_);refine box_event ?hg (N := 10) ?hd (cs := #[.bool false,.string (⟨#[]⟩ : ByteArray),.int .i64 0,.int .i64 0]) (t := 35) ?hr ?_;(case hd=>rfl);(case hg=>rfl);(case hr=>first|(go_simp;done)|(go_simp;rfl)|(go_simp;simp [my_u8w];done));intro gb196 hg w49 hbox hb;have n0_ := Aside0.mk (Kd.R_below (by (with_reducible repeat (first|apply Kd.R_alloc|apply Kd.R_drewN|apply Kd.R_drew));exact HO_9.out) hb);have n1_ := Aside0.mk (IsS81.below (by repeat (first|(with_reducible first|exact HI180.out|apply IsS81.alloc|apply IsS81.drewN|apply IsS81.drew|apply IsS81.set_0|apply IsS81.set_1|apply IsS81.set_2)|exact HI180.out)) hb);have n2_ := Aside0.mk (below_step (by repeat (first|(with_reducible first|exact HB.out|apply below_alloc|apply pw_below_drewN|apply below_drew1|refine below_set ?_ (IsS81.ge HI180.out))|exact HB.out)) hb);have n3_ := Aside0.mk (hbox);have n4_ := Aside0.mk ((by rw [hg];exact (below_size (by repeat (first|(with_reducible first|exact HB.out|apply below_alloc|apply pw_below_drewN|apply below_drew1|refine below_set ?_ (IsS81.ge HI180.out))|exact HB.out))) : w.heap.size ≤ gb196));have n5_ := Aside0.mk ((by rw [hg];exact (below_size (by repeat (first|(with_reducible first|exact HB.out|apply below_alloc|apply pw_below_drewN|apply below_drew1|refine below_set ?_ (IsS81.ge HI180.out))|exact HB.out))) : w.heap.size ≤ gb196));have n6_ := Aside0.mk ((by rw [hg];exact Nat.ne_of_lt (IsS81.lt (show IsS81 w _ g180 t193 t194 t195 from by repeat (first|(with_reducible first|exact HI180.out|apply IsS81.alloc|apply IsS81.drewN|apply IsS81.drew|apply IsS81.set_0|apply IsS81.set_1|apply IsS81.set_2)|exact HI180.out))) : g180 ≠ gb196));have n7_ := Aside0.mk ((by rw [hg];exact Nat.ne_of_gt (IsS81.lt (show IsS81 w _ g180 t193 t194 t195 from by repeat (first|(with_reducible first|exact HI180.out|apply IsS81.alloc|apply IsS81.drewN|apply IsS81.drew|apply IsS81.set_0|apply IsS81.set_1|apply IsS81.set_2)|exact HI180.out))) : gb196 ≠ g180));clear HO_9;clear HI180;clear HB;have HO_9 := n0_;have HI180 := n1_;have HB := n2_;have BK196 := n3_;have GW196 := n4_;have GE196 := n5_;have NB180_196 := n6_;have NB196_180 := n7_;clear n0_ n1_ n2_ n3_ n4_ n5_ n6_ n7_;clear hb hbox hg;have hnb50 := NB196_180.out;have hnc50 := NB180_196.out;have hcz51_0 : w49.cell? ⟨gb196,0,none⟩ = some (.bool false) := (blk_cell BK196.out 0).trans rfl;have hcz51_1 : w49.cell? ⟨gb196,1,none⟩ = some (.string (⟨#[]⟩ : ByteArray)) := (blk_cell BK196.out 1).trans rfl;have hcz51_2 : w49.cell? ⟨gb196,2,none⟩ = some (.int .i64 0) := (blk_cell BK196.out 2).trans rfl;have hcz51_3 : w49.cell? ⟨gb196,3,none⟩ = some (.int .i64 0) := (blk_cell BK196.out 3).trans rfl;have hfz51_0 := blk_frozen BK196.out 0;have hfz51_1 := blk_frozen BK196.out 1;have hfz51_2 := blk_frozen BK196.out 2;have hfz51_3 := blk_frozen BK196.out 3)|((with_reducible refine gate_callee (f := 37) rfl ?_);refine goesL_ (some 40) rfl rfl Try.func37 (by kernel_rfl) rfl #[.pointer (some ⟨g180,0,none⟩)] rfl (by (try simp only [List.map_toArray,List.map_cons,List.map_nil]);first|done|rfl|(simp only [List.length_drop,List.length_take];rfl)) ?_;(with_reducible refine (bits_Reader_Err.calls g180 t193 t194 t195 t197 t198 t199 t200 w _ ?side1 ?side2 A14.out).mono ?_);(case side1=>repeat (first|(with_reducible first|exact HI180.out|apply IsS81.alloc|apply IsS81.drewN|apply IsS81.drew|apply IsS81.set_0|apply IsS81.set_1|apply IsS81.set_2|refine IsS81.far ?_ NB180_196.out _)|exact HI180.out));(case side2=>repeat (first|(with_reducible first|exact HB.out|apply below_alloc|apply pw_below_drewN|apply below_drew1|refine below_set ?_ (IsS81.ge HI180.out)|refine below_set ?_ GE196.out)|exact HB.out));rintro e w52 ⟨rfl,hi,hb,hk⟩;refine ⟨_,rfl,?_⟩;have n0_ := Aside0.mk (Kd.R_mono (Kd.R_keep (IsS81.apart (show IsS81 w _ g180 t193 t194 t195 from by repeat (first|(with_reducible first|exact HI180.out|apply IsS81.alloc|apply IsS81.drewN|apply IsS81.drew|apply IsS81.set_0|apply IsS81.set_1|apply IsS81.set_2|refine IsS81.far ?_ NB180_196.out _)|exact HI180.out)) (by (with_reducible repeat (first|apply Kd.R_alloc|apply Kd.R_drewN|apply Kd.R_drew));exact (Kd.R_mono (Kd.R_far (p := ⟨gb196,3,none⟩) (Kd.R_far (p := ⟨gb196,2,none⟩) (Kd.R_far (p := ⟨gb196,1,none⟩) (Kd.R_far (p := ⟨gb196,0,none⟩) (Kd.R_types HO_9.out BK196.out (by decide)) (fun _ hk=>hk.2) (.bool t189)) (fun _ hk=>hk.2) (.string t190)) (fun _ hk=>hk.2) (.int .i64 t191)) (fun _ hk=>hk.2) (.int .i64 t192)) (fun _ h_=>h_.1))) (by decide)) hk (fun _ h=>h.2)) (fun _ h=>h.1));have n1_ := Aside0.mk (KeepBut.blk hk (g' := gb196) (o := .cells #[.bool t189,.string t190,.int .i64 t191,.int .i64 t192] 35 (0,0)) (by (with_reducible repeat (first|refine blk_drewN ?_ _|refine blk_drew ?_|refine blk_alloc ?_ _));refine blk_put (cs := #[.bool t189,.string t190,.int .i64 t191,.int .i64 0]) ?_ 3 _ rfl;(with_reducible repeat (first|refine blk_drewN ?_ _|refine blk_drew ?_|refine blk_alloc ?_ _));refine blk_put (cs := #[.bool t189,.string t190,.int .i64 0,.int .i64 0]) ?_ 2 _ rfl;(with_reducible repeat (first|refine blk_drewN ?_ _|refine blk_drew ?_|refine blk_alloc ?_ _));refine blk_put (cs := #[.bool t189,.string (⟨#[]⟩ : ByteArray),.int .i64 0,.int .i64 0]) ?_ 1 _ rfl;(with_reducible repeat (first|refine blk_drewN ?_ _|refine blk_drew ?_|refine blk_alloc ?_ _));refine blk_put (cs := #[.bool false,.string (⟨#[]⟩ : ByteArray),.int .i64 0,.int .i64 0]) ?_ 0 _ rfl;(with_reducible repeat (first|refine blk_drewN ?_ _|refine blk_drew ?_|refine blk_alloc ?_ _));exact BK196.out) NB196_180.out (by simp));have n2_ := Aside0.mk (hb);have n3_ := Aside0.mk (hi);clear HO_9;clear BK196;clear HB;clear HI180;have HO_9 := n0_;have BK196 := n1_;have HB := n2_;have HI180 := n3_;clear n0_ n1_ n2_ n3_;(try clear hb);(try clear hb2);(try clear hk);(try clear hi);have hcz53_0 : w52.cell? ⟨gb196,0,none⟩ = some (.bool t189) := (blk_cell BK196.out 0).trans rfl;have hcz53_1 : w52.cell? ⟨gb196,1,none⟩ = some (.string t190) := (blk_cell BK196.out 1).trans rfl;have hcz53_2 : w52.cell? ⟨gb196,2,none⟩ = some (.int .i64 t191) := (blk_cell BK196.out 2).trans rfl;have hcz53_3 : w52.cell? ⟨gb196,3,none⟩ = some (.int .i64 t192) := (blk_cell BK196.out 3).trans rfl;have hfz53_0 := blk_frozen BK196.out 0;have hfz53_1 := blk_frozen BK196.out 1;have hfz53_2 := blk_frozen BK196.out 2;have hfz53_3 := blk_frozen BK196.out 3;obtain ⟨Ao54,co54,eo54⟩ := Kd.R_slice HO_9.out;subst eo54)|((with_reducible refine gate_callee (f := 38) rfl ?_);refine goesL_ (some 66) rfl rfl Try.func38 (by kernel_rfl) rfl #[.agg #[.bool t189,.string t190,.int .i64 t191,.int .i64 t192],.slice Ao54 x9_1.length co54,.int .i64 (wrap64 (t175))] rfl (by (try simp only [List.map_toArray,List.map_cons,List.map_nil]);first|done|rfl|(simp only [List.length_drop,List.length_take];rfl)) ?_;(with_reducible refine (snappy_Part_add.calls k1 t189 t190 t191 t192 (fun k_=>some k_ = (.slice Ao54 x9_1.length co54 : Value).ownBlock) (.slice Ao54 x9_1.length co54) x9_1 (wrap64 (t175)) t204 t207 w _ ?side1 ?side2 A36.out).mono ?_);(case side1=>repeat (first|(with_reducible first|exact HB.out|apply below_alloc|apply pw_below_drewN|apply below_drew1|refine below_set ?_ (IsS81.ge HI180.out)|refine below_set ?_ GE196.out)|exact HB.out));(case side2=>exact Kd.R_tight rfl HO_9.out);rintro e w55 ⟨v205,rfl,ho0,hb,hkp⟩;refine ⟨_,rfl,?_⟩;have n0_ := Aside0.mk (IsS81.kept (by repeat (first|(with_reducible first|exact HI180.out|apply IsS81.alloc|apply IsS81.drewN|apply IsS81.drew|apply IsS81.set_0|apply IsS81.set_1|apply IsS81.set_2|refine IsS81.far ?_ NB180_196.out _)|exact HI180.out)) hkp (fun hs_=>(fun e_=>(IsS81.own_ne HI180.out HO_9.out (by decide)) e_) hs_));have n1_ := Aside0.mk (blk_kept (by (with_reducible repeat (first|refine blk_drewN ?_ _|refine blk_drew ?_|refine blk_alloc ?_ _));exact BK196.out) hkp (fun hs_=>(fun e_=>(Kd.R_ne HO_9.out BK196.out (by decide)) e_) hs_));have n2_ := Aside0.mk (Kd.R_mono (ok' := fun k_=>True) ho0 (fun k_ hk_=>trivial));have n3_ := Aside0.mk (hb);clear HI180;clear BK196;clear HB;clear HO_9;have HI180 := n0_;have BK196 := n1_;have HO206 := n2_;have HB := n3_;clear n0_ n1_ n2_ n3_;(try clear hb);(try clear hkp);(try clear ho0)))
          go_ret2
          exact ⟨by first|rfl|(simp [errW_none,errW_some] <;> rfl)|(simp [*,errW_none,errW_some] <;> rfl),by repeat (first|(with_reducible first|exact HB.out|apply below_alloc|apply pw_below_drewN|apply below_drew1|refine below_set ?_ (IsS81.ge HI180.out)|refine below_set ?_ GE196.out)|exact HB.out)⟩
       ·rw [if_neg c15] at H
        have c15b0 : (t197 == 0) = false := beq_eq_false_iff_ne.mpr c15
        have c15b1 : (t197 != 0) = true := bne_iff_ne.mpr c15
        simp only [Option.some.injEq,Prod.mk.injEq] at H
        obtain ⟨rfl,rfl⟩ := H
        go_wp2_with (first|((with_reducible refine gate_callee (f := 35) rfl ?_);refine goesL_ (some 35) rfl rfl Try.func35 (by kernel_rfl) rfl #[.pointer (some ⟨g180,0,none⟩)] rfl (by (try simp only [List.map_toArray,List.map_cons,List.map_nil]);first|done|rfl|(simp only [List.length_drop,List.length_take];rfl)) ?_;(with_reducible refine (bits_Reader_Left.calls g180 x181000_1 x181001_1 x181002_1 t185 t186 t187 t188 w _ ?side1 ?side2 A11.out).mono ?_);(case side1=>repeat (first|(with_reducible first|exact HI180.out|apply IsS81.alloc|apply IsS81.drewN|apply IsS81.drew|apply IsS81.set_0|apply IsS81.set_1|apply IsS81.set_2)|exact HI180.out));(case side2=>repeat (first|(with_reducible first|exact HB.out|apply below_alloc|apply pw_below_drewN|apply below_drew1|refine below_set ?_ (IsS81.ge HI180.out))|exact HB.out));rintro e w56 ⟨rfl,hi,hb,hk⟩;refine ⟨_,rfl,?_⟩;have n0_ := Aside0.mk (Kd.R_mono (Kd.R_keep (IsS81.apart (show IsS81 w _ g180 x181000_1 x181001_1 x181002_1 from by repeat (first|(with_reducible first|exact HI180.out|apply IsS81.alloc|apply IsS81.drewN|apply IsS81.drew|apply IsS81.set_0|apply IsS81.set_1|apply IsS81.set_2)|exact HI180.out)) (by (with_reducible repeat (first|apply Kd.R_alloc|apply Kd.R_drewN|apply Kd.R_drew));exact HO_9.out) (by decide)) hk (fun _ h=>h.2)) (fun _ h=>h.1));have n1_ := Aside0.mk (hb);have n2_ := Aside0.mk (hi);clear HO_9;clear HB;clear HI180;have HO_9 := n0_;have HB := n1_;have HI180 := n2_;clear n0_ n1_ n2_;(try clear hb);(try clear hb2);(try clear hk);(try clear hi))|((with_reducible refine gate_callee (f := 36) rfl ?_);refine goesL_ (some 38) rfl rfl Try.func36 (by kernel_rfl) rfl #[.pointer (some ⟨g180,0,none⟩)] rfl (by (try simp only [List.map_toArray,List.map_cons,List.map_nil]);first|done|rfl|(simp only [List.length_drop,List.length_take];rfl)) ?_;(with_reducible refine (snappy_next.calls k1 g180 t186 t187 t188 t189 t190 t191 t192 t193 t194 t195 w _ ?side1 ?side2 A13.out).mono ?_);(case side1=>repeat (first|(with_reducible first|exact HI180.out|apply IsS81.alloc|apply IsS81.drewN|apply IsS81.drew|apply IsS81.set_0|apply IsS81.set_1|apply IsS81.set_2)|exact HI180.out));(case side2=>repeat (first|(with_reducible first|exact HB.out|apply below_alloc|apply pw_below_drewN|apply below_drew1|refine below_set ?_ (IsS81.ge HI180.out))|exact HB.out));rintro e w57 ⟨rfl,hi,hb,hk⟩;refine ⟨_,rfl,?_⟩;have n0_ := Aside0.mk (Kd.R_mono (Kd.R_keep (IsS81.apart (show IsS81 w _ g180 t186 t187 t188 from by repeat (first|(with_reducible first|exact HI180.out|apply IsS81.alloc|apply IsS81.drewN|apply IsS81.drew|apply IsS81.set_0|apply IsS81.set_1|apply IsS81.set_2)|exact HI180.out)) (by (with_reducible repeat (first|apply Kd.R_alloc|apply Kd.R_drewN|apply Kd.R_drew));exact HO_9.out) (by decide)) hk (fun _ h=>h.2)) (fun _ h=>h.1));have n1_ := Aside0.mk (hb);have n2_ := Aside0.mk (hi);clear HO_9;clear HB;clear HI180;have HO_9 := n0_;have HB := n1_;have HI180 := n2_;clear n0_ n1_ n2_;(try clear hb);(try clear hb2);(try clear hk);(try clear hi))|((with_reducible refine gate_dst (N := 10) rfl ?_);refine box_event ?hg (N := 10) ?hd (cs := #[.bool false,.string (⟨#[]⟩ : ByteArray),.int .i64 0,.int .i64 0]) (t := 35) ?hr ?_;(case hd=>rfl);(case hg=>rfl);(case hr=>first|(go_simp;done)|(go_simp;rfl)|(go_simp;simp [my_u8w];done));intro gb196 hg w58 hbox hb;have n0_ := Aside0.mk (Kd.R_below (by (with_reducible repeat (first|apply Kd.R_alloc|apply Kd.R_drewN|apply Kd.R_drew));exact HO_9.out) hb);have n1_ := Aside0.mk (IsS81.below (by repeat (first|(with_reducible first|exact HI180.out|apply IsS81.alloc|apply IsS81.drewN|apply IsS81.drew|apply IsS81.set_0|apply IsS81.set_1|apply IsS81.set_2)|exact HI180.out)) hb);have n2_ := Aside0.mk (below_step (by repeat (first|(with_reducible first|exact HB.out|apply below_alloc|apply pw_below_drewN|apply below_drew1|refine below_set ?_ (IsS81.ge HI180.out))|exact HB.out)) hb);have n3_ := Aside0.mk (hbox);have n4_ := Aside0.mk ((by rw [hg];exact (below_size (by repeat (first|(with_reducible first|exact HB.out|apply below_alloc|apply pw_below_drewN|apply below_drew1|refine below_set ?_ (IsS81.ge HI180.out))|exact HB.out))) : w.heap.size ≤ gb196));have n5_ := Aside0.mk ((by rw [hg];exact (below_size (by repeat (first|(with_reducible first|exact HB.out|apply below_alloc|apply pw_below_drewN|apply below_drew1|refine below_set ?_ (IsS81.ge HI180.out))|exact HB.out))) : w.heap.size ≤ gb196));have n6_ := Aside0.mk ((by rw [hg];exact Nat.ne_of_lt (IsS81.lt (show IsS81 w _ g180 t193 t194 t195 from by repeat (first|(with_reducible first|exact HI180.out|apply IsS81.alloc|apply IsS81.drewN|apply IsS81.drew|apply IsS81.set_0|apply IsS81.set_1|apply IsS81.set_2)|exact HI180.out))) : g180 ≠ gb196));have n7_ := Aside0.mk ((by rw [hg];exact Nat.ne_of_gt (IsS81.lt (show IsS81 w _ g180 t193 t194 t195 from by repeat (first|(with_reducible first|exact HI180.out|apply IsS81.alloc|apply IsS81.drewN|apply IsS81.drew|apply IsS81.set_0|apply IsS81.set_1|apply IsS81.set_2)|exact HI180.out))) : gb196 ≠ g180));clear HO_9;clear HI180;clear HB;have HO_9 := n0_;have HI180 := n1_;have HB := n2_;have BK196 := n3_;have GW196 := n4_;have GE196 := n5_;have NB180_196 := n6_;have NB196_180 := n7_;clear n0_ n1_ n2_ n3_ n4_ n5_ n6_ n7_;clear hb hbox hg;have hnb59 := NB196_180.out;have hnc59 := NB180_196.out;have hcz60_0 : w58.cell? ⟨gb196,0,none⟩ = some (.bool false) := (blk_cell BK196.out 0).trans rfl;have hcz60_1 : w58.cell? ⟨gb196,1,none⟩ = some (.string (⟨#[]⟩ : ByteArray)) := (blk_cell BK196.out 1).trans rfl;have hcz60_2 : w58.cell? ⟨gb196,2,none⟩ = some (.int .i64 0) := (blk_cell BK196.out 2).trans rfl;have hcz60_3 : w58.cell? ⟨gb196,3,none⟩ = some (.int .i64 0) := (blk_cell BK196.out 3).trans rfl;have hfz60_0 := blk_frozen BK196.out 0;have hfz60_1 := blk_frozen BK196.out 1;have hfz60_2 := blk_frozen BK196.out 2;have hfz60_3 := blk_frozen BK196.out 3)|((with_reducible refine gate_callee (f := 37) rfl ?_);refine goesL_ (some 40) rfl rfl Try.func37 (by kernel_rfl) rfl #[.pointer (some ⟨g180,0,none⟩)] rfl (by (try simp only [List.map_toArray,List.map_cons,List.map_nil]);first|done|rfl|(simp only [List.length_drop,List.length_take];rfl)) ?_;(with_reducible refine (bits_Reader_Err.calls g180 t193 t194 t195 t197 t198 t199 t200 w _ ?side1 ?side2 A14.out).mono ?_);(case side1=>repeat (first|(with_reducible first|exact HI180.out|apply IsS81.alloc|apply IsS81.drewN|apply IsS81.drew|apply IsS81.set_0|apply IsS81.set_1|apply IsS81.set_2|refine IsS81.far ?_ NB180_196.out _)|exact HI180.out));(case side2=>repeat (first|(with_reducible first|exact HB.out|apply below_alloc|apply pw_below_drewN|apply below_drew1|refine below_set ?_ (IsS81.ge HI180.out)|refine below_set ?_ GE196.out)|exact HB.out));rintro e w61 ⟨rfl,hi,hb,hk⟩;refine ⟨_,rfl,?_⟩;have n0_ := Aside0.mk (Kd.R_mono (Kd.R_keep (IsS81.apart (show IsS81 w _ g180 t193 t194 t195 from by repeat (first|(with_reducible first|exact HI180.out|apply IsS81.alloc|apply IsS81.drewN|apply IsS81.drew|apply IsS81.set_0|apply IsS81.set_1|apply IsS81.set_2|refine IsS81.far ?_ NB180_196.out _)|exact HI180.out)) (by (with_reducible repeat (first|apply Kd.R_alloc|apply Kd.R_drewN|apply Kd.R_drew));exact (Kd.R_mono (Kd.R_far (p := ⟨gb196,3,none⟩) (Kd.R_far (p := ⟨gb196,2,none⟩) (Kd.R_far (p := ⟨gb196,1,none⟩) (Kd.R_far (p := ⟨gb196,0,none⟩) (Kd.R_types HO_9.out BK196.out (by decide)) (fun _ hk=>hk.2) (.bool t189)) (fun _ hk=>hk.2) (.string t190)) (fun _ hk=>hk.2) (.int .i64 t191)) (fun _ hk=>hk.2) (.int .i64 t192)) (fun _ h_=>h_.1))) (by decide)) hk (fun _ h=>h.2)) (fun _ h=>h.1));have n1_ := Aside0.mk (KeepBut.blk hk (g' := gb196) (o := .cells #[.bool t189,.string t190,.int .i64 t191,.int .i64 t192] 35 (0,0)) (by (with_reducible repeat (first|refine blk_drewN ?_ _|refine blk_drew ?_|refine blk_alloc ?_ _));refine blk_put (cs := #[.bool t189,.string t190,.int .i64 t191,.int .i64 0]) ?_ 3 _ rfl;(with_reducible repeat (first|refine blk_drewN ?_ _|refine blk_drew ?_|refine blk_alloc ?_ _));refine blk_put (cs := #[.bool t189,.string t190,.int .i64 0,.int .i64 0]) ?_ 2 _ rfl;(with_reducible repeat (first|refine blk_drewN ?_ _|refine blk_drew ?_|refine blk_alloc ?_ _));refine blk_put (cs := #[.bool t189,.string (⟨#[]⟩ : ByteArray),.int .i64 0,.int .i64 0]) ?_ 1 _ rfl;(with_reducible repeat (first|refine blk_drewN ?_ _|refine blk_drew ?_|refine blk_alloc ?_ _));refine blk_put (cs := #[.bool false,.string (⟨#[]⟩ : ByteArray),.int .i64 0,.int .i64 0]) ?_ 0 _ rfl;(with_reducible repeat (first|refine blk_drewN ?_ _|refine blk_drew ?_|refine blk_alloc ?_ _));exact BK196.out) NB196_180.out (by simp));have n2_ := Aside0.mk (hb);have n3_ := Aside0.mk (hi);clear HO_9;clear BK196;clear HB;clear HI180;have HO_9 := n0_;have BK196 := n1_;have HB := n2_;have HI180 := n3_;clear n0_ n1_ n2_ n3_;(try clear hb);(try clear hb2);(try clear hk);(try clear hi)))
        go_ret2
        exact ⟨by first|rfl|(simp [errW_none,errW_some] <;> rfl)|(simp [*,errW_none,errW_some] <;> rfl),by repeat (first|(with_reducible first|exact HB.out|apply below_alloc|apply pw_below_drewN|apply below_drew1|refine below_set ?_ (IsS81.ge HI180.out)|refine below_set ?_ GE196.out)|exact HB.out)⟩
      ·rw [if_neg c12] at H
       have c12b0 : decide (0 < t185) = false := decide_eq_false c12
       clear c12
       by_cases c62 : (x9_1.length : Int) < (wrap64 (t175))
       ·rw [if_pos c62] at H
        have c62b0 : decide ((x9_1.length : Int) < (wrap64 (t175))) = true := decide_eq_true c62
        clear c62
        simp only [Option.some.injEq,Prod.mk.injEq] at H
        obtain ⟨rfl,rfl⟩ := H
        go_wp2_with (first|((with_reducible refine gate_callee (f := 35) rfl ?_);refine goesL_ (some 35) rfl rfl Try.func35 (by kernel_rfl) rfl #[.pointer (some ⟨g180,0,none⟩)] rfl (by (try simp only [List.map_toArray,List.map_cons,List.map_nil]);first|done|rfl|(simp only [List.length_drop,List.length_take];rfl)) ?_;(with_reducible refine (bits_Reader_Left.calls g180 x181000_1 x181001_1 x181002_1 t185 t186 t187 t188 w _ ?side1 ?side2 A11.out).mono ?_);(case side1=>repeat (first|(with_reducible first|exact HI180.out|apply IsS81.alloc|apply IsS81.drewN|apply IsS81.drew|apply IsS81.set_0|apply IsS81.set_1|apply IsS81.set_2)|exact HI180.out));(case side2=>repeat (first|(with_reducible first|exact HB.out|apply below_alloc|apply pw_below_drewN|apply below_drew1|refine below_set ?_ (IsS81.ge HI180.out))|exact HB.out));rintro e w63 ⟨rfl,hi,hb,hk⟩;refine ⟨_,rfl,?_⟩;have n0_ := Aside0.mk (Kd.R_mono (Kd.R_keep (IsS81.apart (show IsS81 w _ g180 x181000_1 x181001_1 x181002_1 from by repeat (first|(with_reducible first|exact HI180.out|apply IsS81.alloc|apply IsS81.drewN|apply IsS81.drew|apply IsS81.set_0|apply IsS81.set_1|apply IsS81.set_2)|exact HI180.out)) (by (with_reducible repeat (first|apply Kd.R_alloc|apply Kd.R_drewN|apply Kd.R_drew));exact HO_9.out) (by decide)) hk (fun _ h=>h.2)) (fun _ h=>h.1));have n1_ := Aside0.mk (hb);have n2_ := Aside0.mk (hi);clear HO_9;clear HB;clear HI180;have HO_9 := n0_;have HB := n1_;have HI180 := n2_;clear n0_ n1_ n2_;(try clear hb);(try clear hb2);(try clear hk);(try clear hi);obtain ⟨Ao64,co64,eo64⟩ := Kd.R_slice HO_9.out;subst eo64))
        go_ret2
        exact ⟨by first|rfl|(simp [errW_none,errW_some] <;> rfl)|(simp [*,errW_none,errW_some] <;> rfl),by repeat (first|(with_reducible first|exact HB.out|apply below_alloc|apply pw_below_drewN|apply below_drew1|refine below_set ?_ (IsS81.ge HI180.out))|exact HB.out)⟩
       ·rw [if_neg c62] at H
        have c62b0 : decide ((x9_1.length : Int) < (wrap64 (t175))) = false := decide_eq_false c62
        clear c62
        simp only [Option.some.injEq,Prod.mk.injEq] at H
        obtain ⟨rfl,rfl⟩ := H
        go_wp2_with (first|((with_reducible refine gate_callee (f := 35) rfl ?_);refine goesL_ (some 35) rfl rfl Try.func35 (by kernel_rfl) rfl #[.pointer (some ⟨g180,0,none⟩)] rfl (by (try simp only [List.map_toArray,List.map_cons,List.map_nil]);first|done|rfl|(simp only [List.length_drop,List.length_take];rfl)) ?_;(with_reducible refine (bits_Reader_Left.calls g180 x181000_1 x181001_1 x181002_1 t185 t186 t187 t188 w _ ?side1 ?side2 A11.out).mono ?_);(case side1=>repeat (first|(with_reducible first|exact HI180.out|apply IsS81.alloc|apply IsS81.drewN|apply IsS81.drew|apply IsS81.set_0|apply IsS81.set_1|apply IsS81.set_2)|exact HI180.out));(case side2=>repeat (first|(with_reducible first|exact HB.out|apply below_alloc|apply pw_below_drewN|apply below_drew1|refine below_set ?_ (IsS81.ge HI180.out))|exact HB.out));rintro e w65 ⟨rfl,hi,hb,hk⟩;refine ⟨_,rfl,?_⟩;have n0_ := Aside0.mk (Kd.R_mono (Kd.R_keep (IsS81.apart (show IsS81 w _ g180 x181000_1 x181001_1 x181002_1 from by repeat (first|(with_reducible first|exact HI180.out|apply IsS81.alloc|apply IsS81.drewN|apply IsS81.drew|apply IsS81.set_0|apply IsS81.set_1|apply IsS81.set_2)|exact HI180.out)) (by (with_reducible repeat (first|apply Kd.R_alloc|apply Kd.R_drewN|apply Kd.R_drew));exact HO_9.out) (by decide)) hk (fun _ h=>h.2)) (fun _ h=>h.1));have n1_ := Aside0.mk (hb);have n2_ := Aside0.mk (hi);clear HO_9;clear HB;clear HI180;have HO_9 := n0_;have HB := n1_;have HI180 := n2_;clear n0_ n1_ n2_;(try clear hb);(try clear hb2);(try clear hk);(try clear hi);obtain ⟨Ao66,co66,eo66⟩ := Kd.R_slice HO_9.out;subst eo66;have hcv67 := own_string (P := Try.prog) Try.underlying28 Try.underlying5 Try.underlying9 (Kd.own_of_R HO_9.out)))
        go_ret2
        exact ⟨by first|rfl|(simp [errW_none,errW_some] <;> rfl)|(simp [*,errW_none,errW_some] <;> rfl),by repeat (first|(with_reducible first|exact HB.out|apply below_alloc|apply pw_below_drewN|apply below_drew1|refine below_set ?_ (IsS81.ge HI180.out))|exact HB.out)⟩
 ·rw [if_neg c4] at H
  have c4b0 : (t176 == 0) = false := beq_eq_false_iff_ne.mpr c4
  have c4b1 : (t176 != 0) = true := bne_iff_ne.mpr c4
  simp only [Option.some.injEq,Prod.mk.injEq] at H
  obtain ⟨rfl,rfl⟩ := H
  go_enter Try.func13,Try.ntmps13
  go_wp2_with (first|((with_reducible refine gate_callee (f := 27) rfl ?_);refine goesL_ (some 14) rfl rfl Try.func27 (by kernel_rfl) rfl #[.string a0] rfl (by (try simp only [List.map_toArray,List.map_cons,List.map_nil]);first|done|rfl|(simp only [List.length_drop,List.length_take];rfl)) ?_;(with_reducible refine (snappy_Size.calls k a0 t175 t176 _ A3.out).mono ?_);rintro e w' ⟨rfl,⟨nd,rfl⟩⟩;refine ⟨_,rfl,?_⟩))
  go_ret2
  exact ⟨by first|rfl|(simp [errW_none,errW_some] <;> rfl)|(simp [*,errW_none,errW_some] <;> rfl),bl_⟩

end Go.Proofs.Ythcjcmgdblhhfaa.PU

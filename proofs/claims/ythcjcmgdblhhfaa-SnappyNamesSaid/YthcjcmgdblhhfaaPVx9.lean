/- The machine side of these statements: what each Go function computes as a plain function, and that its call computes just that. Written by a program of mine (wip/drive.py). No conditions. -/
import Derived.Test.YthcjcmgdblhhfaaPVx0
import Derived.Test.YthcjcmgdblhhfaaPVx8
namespace Go.Proofs.Ythcjcmgdblhhfaa.PV
open Go.RowKit Go.Proofs.YthcjcmgdblhhfaaW.PrintWords Go.Proofs.YthcjcmgdblhhfaaW.PrintLast Go.Proofs.YthcjcmgdblhhfaaW.PrintMore
attribute [local go_sem] max2_int min2_int max_two min_two max_three min_three max_four min_four   -- for this text's walks alone
set_option linter.unusedVariables false
set_option linter.unusedSimpArgs false

/-! ### snappy_Part_add: function 38 -/
mutual
def snappy_Part_add.j0 : Nat → List Int → Int → Int → Bool → ByteArray → Int → Int → Option (List Int × Int)
 | 0,_,_,_,_,_,_,_=>none
 | k + 1,x1,x2,x8,x167000,x167001,x167002,x167003=>(snappy_Part_may.f x167000 x167001 x167002 x167003).bind fun t167=>(if t167 = true then (if x167000 = true then (snappy_Part_add.j1 k x1 x2 x8 (decide (x167002 > (x1.length : Int))) x167000 x167001 x167002 x167003) else (snappy_Part_add.j1 k x1 x2 x8 false x167000 x167001 x167002 x167003)) else (snappy_Part_add.j1 k x1 x2 x8 true x167000 x167001 x167002 x167003))
def snappy_Part_add.j1 : Nat → List Int → Int → Int → Bool → Bool → ByteArray → Int → Int → Option (List Int × Int)
 | 0,_,_,_,_,_,_,_,_=>none
 | k + 1,x1,x2,x8,x16,x167000,x167001,x167002,x167003=>if x16 = true then (some (([] : List Int),4)) else (if x8 > (wrap64 (x2 - (x1.length : Int))) then (some (([] : List Int),40)) else (if x1.length + x167001.size < 140737488355328 then (snappy_Part_add.l0 k (x1 ++ bytesOf x167001) x167003 0 x167000 x167001 x167002 x167003) else (none)))
def snappy_Part_add.l0 : Nat → List Int → Int → Int → Bool → ByteArray → Int → Int → Option (List Int × Int)
 | 0,_,_,_,_,_,_,_=>none
 | k + 1,x1,x43,x44,x167000,x167001,x167002,x167003=>if x44 < x43 then (if 0 ≤ (wrap64 ((x1.length : Int) - x167002)) then (if (wrap64 ((x1.length : Int) - x167002)) < (x1.length : Int) then (if x1.length < 140737488355328 then (snappy_Part_add.l0 k (x1 ++ [rd x1 (wrap64 ((x1.length : Int) - x167002))]) x43 (wrap64 (x44 + 1)) x167000 x167001 x167002 x167003) else (none)) else (none)) else (none)) else (some (x1,0))
end
def snappy_Part_add.f (k : Nat) (a0_0 : Bool) (a0_1 : ByteArray) (a0_2 : Int) (a0_3 : Int) (l1 : List Int) (a2 : Int) : Option (List Int × Int) := if a0_0 = true then (snappy_Part_add.j0 k l1 a2 a0_3 a0_0 a0_1 a0_2 a0_3) else (snappy_Part_add.j0 k l1 a2 (a0_1.size : Int) a0_0 a0_1 a0_2 a0_3)
theorem snappy_Part_add.mono_l : ∀ k, (∀ y0 y1 y2 y3 y4 y5 y6, LeO (snappy_Part_add.j0 k y0 y1 y2 y3 y4 y5 y6) (snappy_Part_add.j0 (k + 1) y0 y1 y2 y3 y4 y5 y6)) ∧ (∀ y0 y1 y2 y3 y4 y5 y6 y7, LeO (snappy_Part_add.j1 k y0 y1 y2 y3 y4 y5 y6 y7) (snappy_Part_add.j1 (k + 1) y0 y1 y2 y3 y4 y5 y6 y7)) ∧ (∀ y0 y1 y2 y3 y4 y5 y6, LeO (snappy_Part_add.l0 k y0 y1 y2 y3 y4 y5 y6) (snappy_Part_add.l0 (k + 1) y0 y1 y2 y3 y4 y5 y6))
 | 0=>⟨fun _ _ _ _ _ _ _ r h=>by simp [snappy_Part_add.j0] at h,fun _ _ _ _ _ _ _ _ r h=>by simp [snappy_Part_add.j1] at h,fun _ _ _ _ _ _ _ r h=>by simp [snappy_Part_add.l0] at h⟩
 | k + 1=>by
  obtain ⟨ih0,ih1,ih2⟩ := snappy_Part_add.mono_l k
  refine ⟨?_,?_,?_⟩
  ·intro y0 y1 y2 y3 y4 y5 y6
   unfold snappy_Part_add.j0
   repeat' first
   | (with_reducible exact ih0 _ _ _ _ _ _ _)
   | (with_reducible exact ih1 _ _ _ _ _ _ _ _)
   | (with_reducible exact ih2 _ _ _ _ _ _ _)
   | (with_reducible exact LeO.refl _)
   | (with_reducible exact LeO.none _)
   | (with_reducible refine LeO.ite ?_ ?_)
   | (with_reducible refine LeO.bind ?_ (fun _=>?_))
   | exact ih0 _ _ _ _ _ _ _
   | exact ih1 _ _ _ _ _ _ _ _
   | exact ih2 _ _ _ _ _ _ _
   | exact LeO.none _
   | refine LeO.ite ?_ ?_
   | refine LeO.bind ?_ (fun _=>?_)
  ·intro y0 y1 y2 y3 y4 y5 y6 y7
   unfold snappy_Part_add.j1
   repeat' first
   | (with_reducible exact ih0 _ _ _ _ _ _ _)
   | (with_reducible exact ih1 _ _ _ _ _ _ _ _)
   | (with_reducible exact ih2 _ _ _ _ _ _ _)
   | (with_reducible exact LeO.refl _)
   | (with_reducible exact LeO.none _)
   | (with_reducible refine LeO.ite ?_ ?_)
   | (with_reducible refine LeO.bind ?_ (fun _=>?_))
   | exact ih0 _ _ _ _ _ _ _
   | exact ih1 _ _ _ _ _ _ _ _
   | exact ih2 _ _ _ _ _ _ _
   | exact LeO.none _
   | refine LeO.ite ?_ ?_
   | refine LeO.bind ?_ (fun _=>?_)
  ·intro y0 y1 y2 y3 y4 y5 y6
   unfold snappy_Part_add.l0
   repeat' first
   | (with_reducible exact ih0 _ _ _ _ _ _ _)
   | (with_reducible exact ih1 _ _ _ _ _ _ _ _)
   | (with_reducible exact ih2 _ _ _ _ _ _ _)
   | (with_reducible exact LeO.refl _)
   | (with_reducible exact LeO.none _)
   | (with_reducible refine LeO.ite ?_ ?_)
   | (with_reducible refine LeO.bind ?_ (fun _=>?_))
   | exact ih0 _ _ _ _ _ _ _
   | exact ih1 _ _ _ _ _ _ _ _
   | exact ih2 _ _ _ _ _ _ _
   | exact LeO.none _
   | refine LeO.ite ?_ ?_
   | refine LeO.bind ?_ (fun _=>?_)
theorem snappy_Part_add.mono : ∀ a0 a1 a2 a3 a4 a5 k, LeO (snappy_Part_add.f k a0 a1 a2 a3 a4 a5) (snappy_Part_add.f (k + 1) a0 a1 a2 a3 a4 a5) := by
 intro a0 a1 a2 a3 a4 a5 k
 obtain ⟨ih0,ih1,ih2⟩ := snappy_Part_add.mono_l k
 unfold snappy_Part_add.f
 repeat' first
   | (with_reducible exact ih0 _ _ _ _ _ _ _)
   | (with_reducible exact ih1 _ _ _ _ _ _ _ _)
   | (with_reducible exact ih2 _ _ _ _ _ _ _)
   | (with_reducible exact LeO.refl _)
   | (with_reducible exact LeO.none _)
   | (with_reducible refine LeO.ite ?_ ?_)
   | (with_reducible refine LeO.bind ?_ (fun _=>?_))
   | exact ih0 _ _ _ _ _ _ _
   | exact ih1 _ _ _ _ _ _ _ _
   | exact ih2 _ _ _ _ _ _ _
   | exact LeO.none _
   | refine LeO.ite ?_ ?_
   | refine LeO.bind ?_ (fun _=>?_)
set_option maxHeartbeats 8000000 in
set_option maxRecDepth 100000 in
theorem snappy_Part_add.calls (k : Nat) (a0_0 : Bool) (a0_1 : ByteArray) (a0_2 : Int) (a0_3 : Int) (P1_ : Nat → Prop) (u9000_ : Value) (l1 : List Int) (a2 : Int) (r1 : List Int) (r2 : Int) (w0 w : World) (hB : Below w0.heap.size w0 w) (ho1 : Kd.R (Kd.int .u8) 5 w w0.heap.size P1_ u9000_ l1) (h : snappy_Part_add.f k a0_0 a0_1 a0_2 a0_3 l1 a2 = some (r1, r2)) :
  Calls Try.prog 38 #[.agg #[.bool a0_0,.string a0_1,.int .i64 a0_2,.int .i64 a0_3],u9000_,.int .i64 a2] w fun e w'=>∃ v0_ : Value,e = .returned (.tuple #[v0_,.int .i64 r2]) ∧ Kd.R (Kd.int .u8) 5 w' w0.heap.size (fun k_=>(P1_ k_ ∨ w.heap.size ≤ k_)) v0_ r1 ∧ Below w0.heap.size w0 w' ∧ Kept w w' (fun k_=>P1_ k_) := by
 have hu35 := Try.underlying35
 have HO1 := Aside0.mk (show Kd.R (Kd.int .u8) 5 w w0.heap.size (fun k_=>(P1_ k_ ∨ w.heap.size ≤ k_)) u9000_ l1 from Kd.R_mono ho1 (fun k_ hk=>(.inl hk)))
 have HK := Aside0.mk (Kept.refl w (fun k_=>P1_ k_))
 have HW0 := Aside0.mk hB.size
 have HB := Aside0.mk hB
 clear hB
 have H : (if a0_0 = true then (snappy_Part_add.j0 k l1 a2 a0_3 a0_0 a0_1 a0_2 a0_3) else (snappy_Part_add.j0 k l1 a2 (a0_1.size : Int) a0_0 a0_1 a0_2 a0_3)) = some (r1,r2) := h
 clear h
 have HC4 := Aside0.mk H
 clear H
 go_enter Try.func38,Try.ntmps38
 go_upto_if 13 with (first|((with_reducible refine gate_dst (N := 3) rfl ?_);(try (refine gate_guard (by rfl) ?_;dsimp only));refine box_event ?hg (N := 3) ?hd (cs := #[.bool a0_0,.string a0_1,.int .i64 a0_2,.int .i64 a0_3]) (t := 35) ?hr ?_;(case hd=>rfl);(case hg=>rfl);(case hr=>first|(go_simp;done)|(go_simp;rfl)|(go_simp;simp [my_u8w];done));intro gb166 hg w5 hbox hb;have n0_ := Aside0.mk (Kd.R_below q68_ hb);have n1_ := Aside0.mk (Kept.below (S := (fun k_=>P1_ k_)) q48_ hb);have n2_ := Aside0.mk (below_step (bl_) hb);have n3_ := Aside0.mk (hbox);have n4_ := Aside0.mk ((by rw [hg];exact q108_ : w.heap.size ≤ gb166));have n5_ := Aside0.mk ((by rw [hg];exact (below_size (bl_)) : w0.heap.size ≤ gb166));clear HO1;clear HK;clear HB;have HO1 := n0_;have HK := n1_;have HB := n2_;have BK166 := n3_;have GW166 := n4_;have GE166 := n5_;clear n0_ n1_ n2_ n3_ n4_ n5_;clear hb hbox hg;have hcz6_0 : w5.cell? ⟨gb166,0,none⟩ = some (.bool a0_0) := (blk_cell BK166.out 0).trans rfl;have hcz6_1 : w5.cell? ⟨gb166,1,none⟩ = some (.string a0_1) := (blk_cell BK166.out 1).trans rfl;have hcz6_2 : w5.cell? ⟨gb166,2,none⟩ = some (.int .i64 a0_2) := (blk_cell BK166.out 2).trans rfl;have hcz6_3 : w5.cell? ⟨gb166,3,none⟩ = some (.int .i64 a0_3) := (blk_cell BK166.out 3).trans rfl;have hfz6_0 := blk_frozen BK166.out 0;have hfz6_1 := blk_frozen BK166.out 1;have hfz6_2 := blk_frozen BK166.out 2;have hfz6_3 := blk_frozen BK166.out 3))
 (try simp only [Act.put,List.setIfInBounds_toArray,List.set_cons_zero,List.set_cons_succ])
 go_cut [8] (fun v8 wc=>∃ (kq : Nat) (x8_3 : Int),v8 = .int .i64 x8_3 ∧ Aside0 (snappy_Part_add.j0 kq l1 a2 x8_3 a0_0 a0_1 a0_2 a0_3 = some (r1,r2)) ∧ Aside0 (kq ≤ k) ∧ Aside0 (Kd.R (Kd.int .u8) 5 wc w0.heap.size (fun k_=>(P1_ k_ ∨ w.heap.size ≤ k_)) u9000_ l1) ∧ Aside0 (wc.heap[gb166]? = some (.cells #[.bool a0_0,.string a0_1,.int .i64 a0_2,.int .i64 a0_3] 35 (0,0))) ∧ Aside0 (Kept w wc (fun k_=>P1_ k_)) ∧ Aside0 (Below w0.heap.size w0 wc))
 case first =>
  have H := HC4.out
  clear HC4
  by_cases c7 : a0_0 = true
  ·subst c7
   have H1 : (snappy_Part_add.j0 k l1 a2 a0_3 true a0_1 a0_2 a0_3) = some (r1,r2) := by rw [if_pos rfl] at H;exact H
   clear H
   have H := H1
   clear H1
   have H' := Aside0.mk H
   clear H
   have hcz8_0 : w5.cell? ⟨gb166,0,none⟩ = some (.bool true) := (blk_cell BK166.out 0).trans rfl
   have hcz8_1 : w5.cell? ⟨gb166,1,none⟩ = some (.string a0_1) := (blk_cell BK166.out 1).trans rfl
   have hcz8_2 : w5.cell? ⟨gb166,2,none⟩ = some (.int .i64 a0_2) := (blk_cell BK166.out 2).trans rfl
   have hcz8_3 : w5.cell? ⟨gb166,3,none⟩ = some (.int .i64 a0_3) := (blk_cell BK166.out 3).trans rfl
   have hfz8_0 := blk_frozen BK166.out 0
   have hfz8_1 := blk_frozen BK166.out 1
   have hfz8_2 := blk_frozen BK166.out 2
   have hfz8_3 := blk_frozen BK166.out 3
   go_wp2
   go_meet
   case rel=>exact ⟨_,(a0_3),q4_,H',⟨q50_⟩,⟨q68_⟩,⟨q42_⟩,⟨q28_⟩,⟨q24_⟩⟩
  ·replace c7 := Bool.eq_false_iff.mpr c7
   subst c7
   have H1 : (snappy_Part_add.j0 k l1 a2 (a0_1.size : Int) false a0_1 a0_2 a0_3) = some (r1,r2) := by rw [if_neg (show ¬ (false = true) by decide)] at H;exact H
   clear H
   have H := H1
   clear H1
   have H' := Aside0.mk H
   clear H
   go_wp2
   go_meet
   case rel=>exact ⟨_,((a0_1.size : Int)),q4_,H',⟨q50_⟩,⟨q68_⟩,⟨q42_⟩,⟨q28_⟩,⟨q24_⟩⟩
 case rest =>
  clear HC4
  try clear p2
  try clear c3
  try clear c7
  try clear hcz6_0
  try clear hcz6_1
  try clear hcz6_2
  try clear hcz6_3
  try clear hcz8_0
  try clear hcz8_1
  try clear hcz8_2
  try clear hcz8_3
  try clear hfz6_0
  try clear hfz6_1
  try clear hfz6_2
  try clear hfz6_3
  try clear hfz8_0
  try clear hfz8_1
  try clear hfz8_2
  try clear hfz8_3
  obtain ⟨kq,x8_3,rfl,HA,HJ3,HO_1,BK166,HK,HB⟩ := hcut
  cases kq with
  | zero=>exact absurd HA.out (by simp [snappy_Part_add.j0])
  | succ kj3 =>
   have H := HA.out
   clear HA
   simp only [snappy_Part_add.j0] at H
   have HC9 := Aside0.mk H
   clear H
   go_upto_region 4 with (fail)
   go_cut [16] (fun v16 wc=>∃ (kq : Nat) (x16_8 : Bool),v16 = .bool x16_8 ∧ Aside0 (snappy_Part_add.j1 kq l1 a2 x8_3 x16_8 a0_0 a0_1 a0_2 a0_3 = some (r1,r2)) ∧ Aside0 (kq ≤ kj3) ∧ Aside0 (Kd.R (Kd.int .u8) 5 wc w0.heap.size (fun k_=>(P1_ k_ ∨ w.heap.size ≤ k_)) u9000_ l1) ∧ Aside0 (wc.heap[gb166]? = some (.cells #[.bool a0_0,.string a0_1,.int .i64 a0_2,.int .i64 a0_3] 35 (0,0))) ∧ Aside0 (Kept w wc (fun k_=>P1_ k_)) ∧ Aside0 (Below w0.heap.size w0 wc))
   case first =>
    have H := HC9.out
    clear HC9
    replace H := Option.bind_eq_some_iff.mp H
    obtain ⟨t167,A100,H⟩ := H
    replace H : (if t167 = true then (if a0_0 = true then (snappy_Part_add.j1 kj3 l1 a2 x8_3 (decide (a0_2 > (l1.length : Int))) a0_0 a0_1 a0_2 a0_3) else (snappy_Part_add.j1 kj3 l1 a2 x8_3 false a0_0 a0_1 a0_2 a0_3)) else (snappy_Part_add.j1 kj3 l1 a2 x8_3 true a0_0 a0_1 a0_2 a0_3)) = some (r1,r2) := H
    have A10 := Aside0.mk A100
    clear A100
    by_cases c11 : t167 = true
    ·subst c11
     have H1 : (if a0_0 = true then (snappy_Part_add.j1 kj3 l1 a2 x8_3 (decide (a0_2 > (l1.length : Int))) a0_0 a0_1 a0_2 a0_3) else (snappy_Part_add.j1 kj3 l1 a2 x8_3 false a0_0 a0_1 a0_2 a0_3)) = some (r1,r2) := by rw [if_pos rfl] at H;exact H
     clear H
     have H := H1
     clear H1
     by_cases c12 : a0_0 = true
     ·subst c12
      have H1 : (snappy_Part_add.j1 kj3 l1 a2 x8_3 (decide (a0_2 > (l1.length : Int))) true a0_1 a0_2 a0_3) = some (r1,r2) := by rw [if_pos rfl] at H;exact H
      clear H
      have H := H1
      clear H1
      have H' := Aside0.mk H
      clear H
      have hcz13_0 : wc.cell? ⟨gb166,0,none⟩ = some (.bool true) := (blk_cell BK166.out 0).trans rfl
      have hcz13_1 : wc.cell? ⟨gb166,1,none⟩ = some (.string a0_1) := (blk_cell BK166.out 1).trans rfl
      have hcz13_2 : wc.cell? ⟨gb166,2,none⟩ = some (.int .i64 a0_2) := (blk_cell BK166.out 2).trans rfl
      have hcz13_3 : wc.cell? ⟨gb166,3,none⟩ = some (.int .i64 a0_3) := (blk_cell BK166.out 3).trans rfl
      have hfz13_0 := blk_frozen BK166.out 0
      have hfz13_1 := blk_frozen BK166.out 1
      have hfz13_2 := blk_frozen BK166.out 2
      have hfz13_3 := blk_frozen BK166.out 3
      go_wp2_with (first|((with_reducible refine gate_callee (f := 55) rfl ?_);refine goesL_ (some 18) rfl rfl Try.func55 q9_ rfl #[.agg #[.bool true,.string a0_1,.int .i64 a0_2,.int .i64 a0_3]] rfl q0_ ?_;(with_reducible refine (snappy_Part_may.calls true a0_1 a0_2 a0_3 true _ A10.out).mono ?_);rintro e w14 ⟨rfl,hb⟩;refine ⟨_,rfl,?_⟩;have n0_ := Aside0.mk (Kd.R_below q34_ hb);have n1_ := Aside0.mk (blk_below (g := gb166) (o := .cells #[.bool true,.string a0_1,.int .i64 a0_2,.int .i64 a0_3] 35 (0,0)) q42_ hb);have n2_ := Aside0.mk (Kept.below (S := (fun k_=>P1_ k_)) q28_ hb);have n3_ := Aside0.mk (below_step q24_ hb);clear HO_1;clear BK166;clear HK;clear HB;have HO_1 := n0_;have BK166 := n1_;have HK := n2_;have HB := n3_;clear n0_ n1_ n2_ n3_;(try clear hb);(try clear hb2);(try clear hk);(try clear hi);have hcz15_0 : w14.cell? ⟨gb166,0,none⟩ = some (.bool true) := (blk_cell BK166.out 0).trans rfl;have hcz15_1 : w14.cell? ⟨gb166,1,none⟩ = some (.string a0_1) := (blk_cell BK166.out 1).trans rfl;have hcz15_2 : w14.cell? ⟨gb166,2,none⟩ = some (.int .i64 a0_2) := (blk_cell BK166.out 2).trans rfl;have hcz15_3 : w14.cell? ⟨gb166,3,none⟩ = some (.int .i64 a0_3) := (blk_cell BK166.out 3).trans rfl;have hfz15_0 := blk_frozen BK166.out 0;have hfz15_1 := blk_frozen BK166.out 1;have hfz15_2 := blk_frozen BK166.out 2;have hfz15_3 := blk_frozen BK166.out 3;obtain ⟨Ao16,co16,eo16⟩ := Kd.R_slice HO_1.out;subst eo16))
      go_meet
      case rel=>exact ⟨_,(decide (a0_2 > (l1.length : Int))),q4_,H',⟨q93_⟩,⟨q34_⟩,⟨q42_⟩,⟨q28_⟩,⟨q24_⟩⟩
     ·replace c12 := Bool.eq_false_iff.mpr c12
      subst c12
      have H1 : (snappy_Part_add.j1 kj3 l1 a2 x8_3 false false a0_1 a0_2 a0_3) = some (r1,r2) := by rw [if_neg (show ¬ (false = true) by decide)] at H;exact H
      clear H
      have H := H1
      clear H1
      have H' := Aside0.mk H
      clear H
      have hcz17_0 : wc.cell? ⟨gb166,0,none⟩ = some (.bool false) := (blk_cell BK166.out 0).trans rfl
      have hcz17_1 : wc.cell? ⟨gb166,1,none⟩ = some (.string a0_1) := (blk_cell BK166.out 1).trans rfl
      have hcz17_2 : wc.cell? ⟨gb166,2,none⟩ = some (.int .i64 a0_2) := (blk_cell BK166.out 2).trans rfl
      have hcz17_3 : wc.cell? ⟨gb166,3,none⟩ = some (.int .i64 a0_3) := (blk_cell BK166.out 3).trans rfl
      have hfz17_0 := blk_frozen BK166.out 0
      have hfz17_1 := blk_frozen BK166.out 1
      have hfz17_2 := blk_frozen BK166.out 2
      have hfz17_3 := blk_frozen BK166.out 3
      go_wp2_with (first|((with_reducible refine gate_callee (f := 55) rfl ?_);refine goesL_ (some 18) rfl rfl Try.func55 q9_ rfl #[.agg #[.bool false,.string a0_1,.int .i64 a0_2,.int .i64 a0_3]] rfl q0_ ?_;(with_reducible refine (snappy_Part_may.calls false a0_1 a0_2 a0_3 true _ A10.out).mono ?_);rintro e w18 ⟨rfl,hb⟩;refine ⟨_,rfl,?_⟩;have n0_ := Aside0.mk (Kd.R_below q34_ hb);have n1_ := Aside0.mk (blk_below (g := gb166) (o := .cells #[.bool false,.string a0_1,.int .i64 a0_2,.int .i64 a0_3] 35 (0,0)) q42_ hb);have n2_ := Aside0.mk (Kept.below (S := (fun k_=>P1_ k_)) q28_ hb);have n3_ := Aside0.mk (below_step q24_ hb);clear HO_1;clear BK166;clear HK;clear HB;have HO_1 := n0_;have BK166 := n1_;have HK := n2_;have HB := n3_;clear n0_ n1_ n2_ n3_;(try clear hb);(try clear hb2);(try clear hk);(try clear hi);have hcz19_0 : w18.cell? ⟨gb166,0,none⟩ = some (.bool false) := (blk_cell BK166.out 0).trans rfl;have hcz19_1 : w18.cell? ⟨gb166,1,none⟩ = some (.string a0_1) := (blk_cell BK166.out 1).trans rfl;have hcz19_2 : w18.cell? ⟨gb166,2,none⟩ = some (.int .i64 a0_2) := (blk_cell BK166.out 2).trans rfl;have hcz19_3 : w18.cell? ⟨gb166,3,none⟩ = some (.int .i64 a0_3) := (blk_cell BK166.out 3).trans rfl;have hfz19_0 := blk_frozen BK166.out 0;have hfz19_1 := blk_frozen BK166.out 1;have hfz19_2 := blk_frozen BK166.out 2;have hfz19_3 := blk_frozen BK166.out 3))
      go_meet
      case rel=>exact ⟨_,(false),q4_,H',⟨q93_⟩,⟨q34_⟩,⟨q42_⟩,⟨q28_⟩,⟨q24_⟩⟩
    ·replace c11 := Bool.eq_false_iff.mpr c11
     subst c11
     have H1 : (snappy_Part_add.j1 kj3 l1 a2 x8_3 true a0_0 a0_1 a0_2 a0_3) = some (r1,r2) := by rw [if_neg (show ¬ (false = true) by decide)] at H;exact H
     clear H
     have H := H1
     clear H1
     have H' := Aside0.mk H
     clear H
     have hcz20_0 : wc.cell? ⟨gb166,0,none⟩ = some (.bool a0_0) := (blk_cell BK166.out 0).trans rfl
     have hcz20_1 : wc.cell? ⟨gb166,1,none⟩ = some (.string a0_1) := (blk_cell BK166.out 1).trans rfl
     have hcz20_2 : wc.cell? ⟨gb166,2,none⟩ = some (.int .i64 a0_2) := (blk_cell BK166.out 2).trans rfl
     have hcz20_3 : wc.cell? ⟨gb166,3,none⟩ = some (.int .i64 a0_3) := (blk_cell BK166.out 3).trans rfl
     have hfz20_0 := blk_frozen BK166.out 0
     have hfz20_1 := blk_frozen BK166.out 1
     have hfz20_2 := blk_frozen BK166.out 2
     have hfz20_3 := blk_frozen BK166.out 3
     go_wp2_with (first|((with_reducible refine gate_callee (f := 55) rfl ?_);refine goesL_ (some 18) rfl rfl Try.func55 q9_ rfl #[.agg #[.bool a0_0,.string a0_1,.int .i64 a0_2,.int .i64 a0_3]] rfl q0_ ?_;(with_reducible refine (snappy_Part_may.calls a0_0 a0_1 a0_2 a0_3 false _ A10.out).mono ?_);rintro e w21 ⟨rfl,hb⟩;refine ⟨_,rfl,?_⟩;have n0_ := Aside0.mk (Kd.R_below q34_ hb);have n1_ := Aside0.mk (blk_below (g := gb166) (o := .cells #[.bool a0_0,.string a0_1,.int .i64 a0_2,.int .i64 a0_3] 35 (0,0)) q42_ hb);have n2_ := Aside0.mk (Kept.below (S := (fun k_=>P1_ k_)) q28_ hb);have n3_ := Aside0.mk (below_step q24_ hb);clear HO_1;clear BK166;clear HK;clear HB;have HO_1 := n0_;have BK166 := n1_;have HK := n2_;have HB := n3_;clear n0_ n1_ n2_ n3_;(try clear hb);(try clear hb2);(try clear hk);(try clear hi)))
     go_meet
     case rel=>exact ⟨_,(true),q4_,H',⟨q93_⟩,⟨q34_⟩,⟨q42_⟩,⟨q28_⟩,⟨q24_⟩⟩
   case rest =>
    clear HC9
    try clear c1
    try clear p2
    try clear c3
    try clear c5
    try clear c7
    try clear c11
    try clear c12
    try clear hcz13_0
    try clear hcz13_1
    try clear hcz13_2
    try clear hcz13_3
    try clear hcz15_0
    try clear hcz15_1
    try clear hcz15_2
    try clear hcz15_3
    try clear hcz17_0
    try clear hcz17_1
    try clear hcz17_2
    try clear hcz17_3
    try clear hcz19_0
    try clear hcz19_1
    try clear hcz19_2
    try clear hcz19_3
    try clear hcz20_0
    try clear hcz20_1
    try clear hcz20_2
    try clear hcz20_3
    try clear hcz6_0
    try clear hcz6_1
    try clear hcz6_2
    try clear hcz6_3
    try clear hcz8_0
    try clear hcz8_1
    try clear hcz8_2
    try clear hcz8_3
    try clear hfz13_0
    try clear hfz13_1
    try clear hfz13_2
    try clear hfz13_3
    try clear hfz15_0
    try clear hfz15_1
    try clear hfz15_2
    try clear hfz15_3
    try clear hfz17_0
    try clear hfz17_1
    try clear hfz17_2
    try clear hfz17_3
    try clear hfz19_0
    try clear hfz19_1
    try clear hfz19_2
    try clear hfz19_3
    try clear hfz20_0
    try clear hfz20_1
    try clear hfz20_2
    try clear hfz20_3
    try clear hfz6_0
    try clear hfz6_1
    try clear hfz6_2
    try clear hfz6_3
    try clear hfz8_0
    try clear hfz8_1
    try clear hfz8_2
    try clear hfz8_3
    try clear p2
    obtain ⟨kq,x16_8,rfl,HA,HJ8,HO_1,BK166,HK,HB⟩ := hcut
    cases kq with
    | zero=>exact absurd HA.out (by simp [snappy_Part_add.j1])
    | succ kj8 =>
     have H := HA.out
     clear HA
     simp only [snappy_Part_add.j1] at H
     by_cases c22 : x16_8 = true
     ·subst c22
      have H1 : (some (([] : List Int),4)) = some (r1,r2) := by rw [if_pos rfl] at H;exact H
      clear H
      have H := H1
      clear H1
      simp only [Option.some.injEq,Prod.mk.injEq] at H
      obtain ⟨rfl,rfl⟩ := H
      go_wp2
      go_ret2
      exact ⟨_,q1_,q39_,q24_,q28_⟩
     ·replace c22 := Bool.eq_false_iff.mpr c22
      subst c22
      have H1 : (if x8_3 > (wrap64 (a2 - (l1.length : Int))) then (some (([] : List Int),40)) else (if l1.length + a0_1.size < 140737488355328 then (snappy_Part_add.l0 kj8 (l1 ++ bytesOf a0_1) a0_3 0 a0_0 a0_1 a0_2 a0_3) else (none))) = some (r1,r2) := by rw [if_neg (show ¬ (false = true) by decide)] at H;exact H
      clear H
      have H := H1
      clear H1
      by_cases c23 : x8_3 > (wrap64 (a2 - (l1.length : Int)))
      ·rw [if_pos c23] at H
       have c23b0 : decide ((wrap64 (a2 - (l1.length : Int))) < x8_3) = true := decide_eq_true c23
       clear c23
       simp only [Option.some.injEq,Prod.mk.injEq] at H
       obtain ⟨rfl,rfl⟩ := H
       obtain ⟨Ao24,co24,eo24⟩ := Kd.R_slice HO_1.out
       subst eo24
       go_wp2
       go_ret2
       exact ⟨_,q1_,q39_,q24_,q28_⟩
      ·rw [if_neg c23] at H
       have c23b0 : decide ((wrap64 (a2 - (l1.length : Int))) < x8_3) = false := decide_eq_false c23
       clear c23
       by_cases c25 : l1.length + a0_1.size < 140737488355328
       ·rw [if_pos c25] at H
        have LMc25 := Aside0.mk c25
        clear c25
        obtain ⟨y168,hy168⟩ : ∃ y_ : List Int,y_ = (l1 ++ bytesOf a0_1) := ⟨_,rfl⟩
        replace H : (snappy_Part_add.l0 kj8 y168 a0_3 0 a0_0 a0_1 a0_2 a0_3) = some (r1,r2) := by first|(rw [hy168];with_reducible exact H)|(have H2_ := (Option.bind_some _ _).symm.trans H;rw [hy168];with_reducible exact H2_)|(have H2_ := (Option.bind_some _ _).symm.trans H;with_reducible exact H2_)|with_reducible exact H|(rw [hy168];exact H)|exact H
        have Ny168 := Aside0.mk hy168
        clear hy168
        have H' := Aside0.mk H
        clear H
        obtain ⟨Ao26,co26,eo26⟩ := Kd.R_slice HO_1.out
        subst eo26
        have hcz27_0 : wc.cell? ⟨gb166,0,none⟩ = some (.bool a0_0) := (blk_cell BK166.out 0).trans rfl
        have hcz27_1 : wc.cell? ⟨gb166,1,none⟩ = some (.string a0_1) := (blk_cell BK166.out 1).trans rfl
        have hcz27_2 : wc.cell? ⟨gb166,2,none⟩ = some (.int .i64 a0_2) := (blk_cell BK166.out 2).trans rfl
        have hcz27_3 : wc.cell? ⟨gb166,3,none⟩ = some (.int .i64 a0_3) := (blk_cell BK166.out 3).trans rfl
        have hfz27_0 := blk_frozen BK166.out 0
        have hfz27_1 := blk_frozen BK166.out 1
        have hfz27_2 := blk_frozen BK166.out 2
        have hfz27_3 := blk_frozen BK166.out 3
        go_wp2_with (first|(at_builtin;refine my_append_str (w0 := w0) w0.heap.size rfl (.tmp 38) _ 28 9 5 rfl Try.underlying28 Try.underlying9 info5 (.slice Ao26 l1.length co26) l1 a0_1 (fun k_=>(P1_ k_ ∨ w.heap.size ≤ k_)) rfl rfl ?aO ?aF ?aB ?aS ?aL ?_;(case aB=>exact q24_);(case aF=>exact (fun k_ hk=>(.inr (Nat.le_trans q99_ hk))));(case aO=>exact q34_);(case aS=>exact (below_size q24_));(case aL=>have := LMc25.out;omega);intro v169 w28 ho hb hg hat;rw [← Ny168.out] at ho;have n0_ := Aside0.mk (blk_grown (g := gb166) (o := .cells #[.bool a0_0,.string a0_1,.int .i64 a0_2,.int .i64 a0_3] 35 (0,0)) q42_ hg (Kd.R_ne HO_1.out BK166.out (by decide)));have n1_ := Aside0.mk (hb);have n2_ := Aside0.mk (Kept.of_grown (S := (fun k_=>P1_ k_)) hg q28_ (fun k_ e_=>(HO_1.out.1 k_ e_)));have n3_ := Aside0.mk (ho);clear BK166;clear HB;clear HK;clear HO_1;have BK166 := n0_;have HB := n1_;have HK := n2_;have HO170 := n3_;clear n0_ n1_ n2_ n3_;clear ho hb hg hat;have hcz29_0 : w28.cell? ⟨gb166,0,none⟩ = some (.bool a0_0) := (blk_cell BK166.out 0).trans rfl;have hcz29_1 : w28.cell? ⟨gb166,1,none⟩ = some (.string a0_1) := (blk_cell BK166.out 1).trans rfl;have hcz29_2 : w28.cell? ⟨gb166,2,none⟩ = some (.int .i64 a0_2) := (blk_cell BK166.out 2).trans rfl;have hcz29_3 : w28.cell? ⟨gb166,3,none⟩ = some (.int .i64 a0_3) := (blk_cell BK166.out 3).trans rfl;have hfz29_0 := blk_frozen BK166.out 0;have hfz29_1 := blk_frozen BK166.out 1;have hfz29_2 := blk_frozen BK166.out 2;have hfz29_3 := blk_frozen BK166.out 3))
        go_loopg [1,44] kj8 (fun kq v1 v44 w'=>∃ (x1_3 : List Int) (x44_3 : Int),v44 = .int .i64 x44_3 ∧ Aside0 (snappy_Part_add.l0 kq x1_3 a0_3 x44_3 a0_0 a0_1 a0_2 a0_3 = some (r1,r2)) ∧ Aside0 (kq ≤ kj8) ∧ Aside0 (Kd.R (Kd.int .u8) 5 w' w0.heap.size (fun k_=>(P1_ k_ ∨ w.heap.size ≤ k_)) v1 x1_3) ∧ Aside0 (w'.heap[gb166]? = some (.cells #[.bool a0_0,.string a0_1,.int .i64 a0_2,.int .i64 a0_3] 35 (0,0))) ∧ Aside0 (Kept w w' (fun k_=>P1_ k_)) ∧ Aside0 (Below w0.heap.size w0 w'))
        case atStart=>exact ⟨(y168),(0),q4_,H',⟨Nat.le_refl _⟩,⟨by (with_reducible repeat (first|apply Kd.R_alloc|apply Kd.R_drewN|apply Kd.R_drew));exact HO170.out⟩,⟨q42_⟩,⟨q28_⟩,⟨q24_⟩⟩
        case round =>
         clear H'
         try clear c1
         try clear c2
         try clear p2
         try clear c3
         try clear c5
         try clear p6
         try clear c7
         try clear c11
         try clear c12
         try clear c22
         try clear c23
         try clear c23b0
         try clear c25
         try clear hcz13_0
         try clear hcz13_1
         try clear hcz13_2
         try clear hcz13_3
         try clear hcz15_0
         try clear hcz15_1
         try clear hcz15_2
         try clear hcz15_3
         try clear hcz17_0
         try clear hcz17_1
         try clear hcz17_2
         try clear hcz17_3
         try clear hcz19_0
         try clear hcz19_1
         try clear hcz19_2
         try clear hcz19_3
         try clear hcz20_0
         try clear hcz20_1
         try clear hcz20_2
         try clear hcz20_3
         try clear hcz27_0
         try clear hcz27_1
         try clear hcz27_2
         try clear hcz27_3
         try clear hcz29_0
         try clear hcz29_1
         try clear hcz29_2
         try clear hcz29_3
         try clear hcz6_0
         try clear hcz6_1
         try clear hcz6_2
         try clear hcz6_3
         try clear hcz8_0
         try clear hcz8_1
         try clear hcz8_2
         try clear hcz8_3
         try clear hfz13_0
         try clear hfz13_1
         try clear hfz13_2
         try clear hfz13_3
         try clear hfz15_0
         try clear hfz15_1
         try clear hfz15_2
         try clear hfz15_3
         try clear hfz17_0
         try clear hfz17_1
         try clear hfz17_2
         try clear hfz17_3
         try clear hfz19_0
         try clear hfz19_1
         try clear hfz19_2
         try clear hfz19_3
         try clear hfz20_0
         try clear hfz20_1
         try clear hfz20_2
         try clear hfz20_3
         try clear hfz27_0
         try clear hfz27_1
         try clear hfz27_2
         try clear hfz27_3
         try clear hfz29_0
         try clear hfz29_1
         try clear hfz29_2
         try clear hfz29_3
         try clear hfz6_0
         try clear hfz6_1
         try clear hfz6_2
         try clear hfz6_3
         try clear hfz8_0
         try clear hfz8_1
         try clear hfz8_2
         try clear hfz8_3
         try clear p2
         obtain ⟨x1_3,x44_3,rfl,HA,HK3,HO_1,BK166,HK,HB⟩ := hrel
         cases gk with
         | zero=>exact absurd HA.out (by simp [snappy_Part_add.l0])
         | succ k3 =>
          have H := HA.out
          clear HA
          simp only [snappy_Part_add.l0] at H
          by_cases c30 : x44_3 < a0_3
          ·rw [if_pos c30] at H
           have c30b0 : decide (x44_3 < a0_3) = true := decide_eq_true c30
           clear c30
           obtain ⟨ji31,hji31⟩ : ∃ j_ : Int,(wrap64 ((x1_3.length : Int) - a0_2)) = j_ := ⟨_,rfl⟩
           replace H : (if 0 ≤ (ji31) then (if (ji31) < (x1_3.length : Int) then (if x1_3.length < 140737488355328 then (snappy_Part_add.l0 k3 (x1_3 ++ [rd x1_3 (ji31)]) a0_3 (wrap64 (x44_3 + 1)) a0_0 a0_1 a0_2 a0_3) else (none)) else (none)) else (none)) = some (r1,r2) := by first|(rw [hji31] at H;exact H)|(simp only [hji31] at H ⊢;exact H)
           have hji31w : (IntKind.i64.wrap ((x1_3.length : Int) - a0_2)) = ji31 := (i64_w _).trans hji31
           by_cases c32 : 0 ≤ (ji31)
           ·rw [if_pos c32] at H
            have c32b0 : decide (0 ≤ (ji31)) = true := decide_eq_true c32
            clear c32
            by_cases c33 : (ji31) < (x1_3.length : Int)
            ·rw [if_pos c33] at H
             have c33b0 : decide ((ji31) < (x1_3.length : Int)) = true := decide_eq_true c33
             clear c33
             by_cases c34 : x1_3.length < 140737488355328
             ·rw [if_pos c34] at H
              have LMc34 := Aside0.mk c34
              clear c34
              obtain ⟨y172,hy172⟩ : ∃ y_ : List Int,y_ = (x1_3 ++ [rd x1_3 (ji31)]) := ⟨_,rfl⟩
              replace H : (snappy_Part_add.l0 k3 y172 a0_3 (wrap64 (x44_3 + 1)) a0_0 a0_1 a0_2 a0_3) = some (r1,r2) := by first|(rw [hy172];with_reducible exact H)|(have H2_ := (Option.bind_some _ _).symm.trans H;rw [hy172];with_reducible exact H2_)|(have H2_ := (Option.bind_some _ _).symm.trans H;with_reducible exact H2_)|with_reducible exact H|(rw [hy172];exact H)|exact H
              have Ny172 := Aside0.mk hy172
              clear hy172
              have H' := Aside0.mk H
              clear H
              obtain ⟨Ao35,co35,eo35⟩ := Kd.R_slice HO_1.out
              subst eo35
              have hcz36_0 : wr.cell? ⟨gb166,0,none⟩ = some (.bool a0_0) := (blk_cell BK166.out 0).trans rfl
              have hcz36_1 : wr.cell? ⟨gb166,1,none⟩ = some (.string a0_1) := (blk_cell BK166.out 1).trans rfl
              have hcz36_2 : wr.cell? ⟨gb166,2,none⟩ = some (.int .i64 a0_2) := (blk_cell BK166.out 2).trans rfl
              have hcz36_3 : wr.cell? ⟨gb166,3,none⟩ = some (.int .i64 a0_3) := (blk_cell BK166.out 3).trans rfl
              have hfz36_0 := blk_frozen BK166.out 0
              have hfz36_1 := blk_frozen BK166.out 1
              have hfz36_2 := blk_frozen BK166.out 2
              have hfz36_3 := blk_frozen BK166.out 3
              have p171 : 0 ≤ ((ji31) : Int) := of_decide_eq_true q3_
              have q171 : (ji31) < (x1_3.length : Int) := of_decide_eq_true q3_
              obtain ⟨ad171,e171,hx171_0⟩ := Kd.at_int (Kd.R_reads' HO_1.out).2.2 (ji31) p171 q171
              cases e171
              replace p171 := eq_true p171
              replace q171 := eq_true q171
              go_wp2_with (first|((with_reducible refine gate_builtin (b := .append) (xs := #[.tmp 46,.tmp 55]) rfl ?_);(try (refine gate_guard (by rfl) ?_;dsimp only));at_builtin;refine Kd.R_append (Kd.int .u8) (w0 := w0) w0.heap.size rfl (.tmp 46) (.tmp 55) 28 5 (.int .u8 0) 1 rfl Try.underlying28 info5 rfl (by decide) q75_ (.slice (some ad171) x1_3.length co35) x1_3 (rd x1_3 (ji31)) [.int .u8 (rd x1_3 (ji31))] (fun k_=>(P1_ k_ ∨ w.heap.size ≤ k_)) (fun _=>False) rfl rfl ?aP (fun _ hk=>hk.elim) ?aF ?aO ?aB ?aS ?aL ?_;(case aP=>exact rfl);(case aB=>exact q24_);(case aF=>exact (fun k_ hk=>(.inr (Nat.le_trans q99_ hk))));(case aO=>exact q34_);(case aS=>exact (below_size q24_));(case aL=>have := LMc34.out;omega);intro v173 w37 ho hb hg hat;rw [← Ny172.out] at ho;have n0_ := Aside0.mk (blk_grown (g := gb166) (o := .cells #[.bool a0_0,.string a0_1,.int .i64 a0_2,.int .i64 a0_3] 35 (0,0)) q42_ hg (Kd.R_ne HO_1.out BK166.out (by decide)));have n1_ := Aside0.mk (hb);have n2_ := Aside0.mk (Kept.of_grown (S := (fun k_=>P1_ k_)) hg q28_ (fun k_ e_=>(HO_1.out.1 k_ e_)));have n3_ := Aside0.mk (ho);clear BK166;clear HB;clear HK;clear HO_1;have BK166 := n0_;have HB := n1_;have HK := n2_;have HO174 := n3_;clear n0_ n1_ n2_ n3_;clear ho hb hg hat))
              go_roundg k3
              case measure=>have := HJ3.out;have := HJ8.out;have := HK3.out;omega
              case rel=>exact ⟨(y172),(wrap64 (x44_3 + 1)),q4_,H',⟨by have := HJ3.out;have := HJ8.out;have := HK3.out;omega⟩,⟨by (with_reducible repeat (first|apply Kd.R_alloc|apply Kd.R_drewN|apply Kd.R_drew));exact HO174.out⟩,⟨q42_⟩,⟨q28_⟩,⟨q24_⟩⟩
             ·rw [if_neg c34] at H
              exact absurd H (by simp)
            ·rw [if_neg c33] at H
             exact absurd H (by simp)
           ·rw [if_neg c32] at H
            exact absurd H (by simp)
          ·rw [if_neg c30] at H
           have c30b0 : decide (x44_3 < a0_3) = false := decide_eq_false c30
           clear c30
           simp only [Option.some.injEq,Prod.mk.injEq] at H
           obtain ⟨rfl,rfl⟩ := H
           go_wp2
           go_ret2
           exact ⟨_,q1_,q34_,q24_,q28_⟩
       ·rw [if_neg c25] at H
        exact absurd H (by simp)

end Go.Proofs.Ythcjcmgdblhhfaa.PV

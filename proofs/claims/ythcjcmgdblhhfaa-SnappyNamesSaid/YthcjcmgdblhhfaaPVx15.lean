/- The machine side of these statements: what each Go function computes as a plain function, and that its call computes just that. Written by a program of mine (wip/drive.py). No conditions. -/
import Derived.Test.YthcjcmgdblhhfaaPVx0
import Derived.Test.YthcjcmgdblhhfaaPVx14
namespace Go.Proofs.Ythcjcmgdblhhfaa.PV
open Go.RowKit Go.Proofs.YthcjcmgdblhhfaaW.PrintWords Go.Proofs.YthcjcmgdblhhfaaW.PrintLast Go.Proofs.YthcjcmgdblhhfaaW.PrintMore
attribute [local go_sem] max2_int min2_int max_two min_two max_three min_three max_four min_four   -- for this text's walks alone
set_option linter.unusedVariables false
set_option linter.unusedSimpArgs false

/-! ### snappy_Part_write: function 42 -/
mutual
def snappy_Part_write.j0 : Nat → List Int → Int → Bool → Bool → ByteArray → Int → Int → Option (List Int)
 | 0,_,_,_,_,_,_,_=>none
 | k + 1,x1,x5,x11,x225000,x225001,x225002,x225003=>if x11 = true then ((some (([(Go.bits .or .i64 (Go.bits .or .i64 (wrap64 ((x225002 / 256) * 32)) (wrap64 ((wrap64 (x225003 - 4)) * 4))) 1) % 256,(x225002) % 256] : List Int) : List Int)).bind fun y225=>(if x1.length + y225.length < 140737488355328 then (some (x1 ++ y225)) else (none))) else (if x225000 = true then (snappy_Part_write.j1 k x1 x5 (decide (x225002 < 65536)) x225000 x225001 x225002 x225003) else (snappy_Part_write.j1 k x1 x5 false x225000 x225001 x225002 x225003))
def snappy_Part_write.j1 : Nat → List Int → Int → Bool → Bool → ByteArray → Int → Int → Option (List Int)
 | 0,_,_,_,_,_,_,_=>none
 | k + 1,x1,x5,x46,x225000,x225001,x225002,x225003=>if x46 = true then (if x1.length < 140737488355328 then ((snappy_put.f k (x1 ++ [(Go.bits .or .i64 (wrap64 ((wrap64 (x225003 - 1)) * 4)) 2) % 256]) x225002 2).bind fun t234=>(some t234)) else (none)) else (if x225000 = true then (if x1.length < 140737488355328 then ((snappy_put.f k (x1 ++ [(Go.bits .or .i64 (wrap64 ((wrap64 (x225003 - 1)) * 4)) 3) % 256]) x225002 4).bind fun t240=>(some t240)) else (none)) else (if x5 < 60 then (if x1.length < 140737488355328 then ((some (x1 ++ [(wrap64 (x5 * 4)) % 256] : List Int)).bind fun y243=>(if y243.length + x225001.size < 140737488355328 then (some (y243 ++ bytesOf x225001)) else (none))) else (none)) else (snappy_Part_write.l0 k x1 x5 1 x225000 x225001 x225002 x225003)))
def snappy_Part_write.l0 : Nat → List Int → Int → Int → Bool → ByteArray → Int → Int → Option (List Int)
 | 0,_,_,_,_,_,_,_=>none
 | k + 1,x1,x5,x6,x225000,x225001,x225002,x225003=>if 0 ≤ (wrap64 (8 * x6)) then (if (shr .i64 x5 (wrap64 (8 * x6))) > 0 then (snappy_Part_write.l0 k x1 x5 (wrap64 (x6 + 1)) x225000 x225001 x225002 x225003) else (if x1.length < 140737488355328 then ((snappy_put.f k (x1 ++ [(Go.bits .or .i64 (wrap64 ((wrap64 ((wrap64 (60 + x6)) - 1)) * 4)) 0) % 256]) x5 x6).bind fun t252=>(if t252.length + x225001.size < 140737488355328 then (some (t252 ++ bytesOf x225001)) else (none))) else (none))) else (none)
end
def snappy_Part_write.f (k : Nat) (a0_0 : Bool) (a0_1 : ByteArray) (a0_2 : Int) (a0_3 : Int) (l1 : List Int) : Option (List Int) := if a0_0 = true then (if a0_3 ≥ 4 then (if a0_3 ≤ 11 then (snappy_Part_write.j0 k l1 (wrap64 ((a0_1.size : Int) - 1)) (decide (a0_2 < 2048)) a0_0 a0_1 a0_2 a0_3) else (snappy_Part_write.j0 k l1 (wrap64 ((a0_1.size : Int) - 1)) false a0_0 a0_1 a0_2 a0_3)) else (snappy_Part_write.j0 k l1 (wrap64 ((a0_1.size : Int) - 1)) false a0_0 a0_1 a0_2 a0_3)) else (snappy_Part_write.j0 k l1 (wrap64 ((a0_1.size : Int) - 1)) false a0_0 a0_1 a0_2 a0_3)
theorem snappy_Part_write.mono_l : ∀ k, (∀ y0 y1 y2 y3 y4 y5 y6, LeO (snappy_Part_write.j0 k y0 y1 y2 y3 y4 y5 y6) (snappy_Part_write.j0 (k + 1) y0 y1 y2 y3 y4 y5 y6)) ∧ (∀ y0 y1 y2 y3 y4 y5 y6, LeO (snappy_Part_write.j1 k y0 y1 y2 y3 y4 y5 y6) (snappy_Part_write.j1 (k + 1) y0 y1 y2 y3 y4 y5 y6)) ∧ (∀ y0 y1 y2 y3 y4 y5 y6, LeO (snappy_Part_write.l0 k y0 y1 y2 y3 y4 y5 y6) (snappy_Part_write.l0 (k + 1) y0 y1 y2 y3 y4 y5 y6))
 | 0=>⟨fun _ _ _ _ _ _ _ r h=>by simp [snappy_Part_write.j0] at h,fun _ _ _ _ _ _ _ r h=>by simp [snappy_Part_write.j1] at h,fun _ _ _ _ _ _ _ r h=>by simp [snappy_Part_write.l0] at h⟩
 | k + 1=>by
  obtain ⟨ih0,ih1,ih2⟩ := snappy_Part_write.mono_l k
  refine ⟨?_,?_,?_⟩
  ·intro y0 y1 y2 y3 y4 y5 y6
   unfold snappy_Part_write.j0
   repeat' first
   | (with_reducible exact ih0 _ _ _ _ _ _ _)
   | (with_reducible exact ih1 _ _ _ _ _ _ _)
   | (with_reducible exact ih2 _ _ _ _ _ _ _)
   | (with_reducible exact snappy_put.mono _ _ _ _)
   | (with_reducible exact LeO.refl _)
   | (with_reducible exact LeO.none _)
   | (with_reducible refine LeO.ite ?_ ?_)
   | (with_reducible refine LeO.bind ?_ (fun _=>?_))
   | exact ih0 _ _ _ _ _ _ _
   | exact ih1 _ _ _ _ _ _ _
   | exact ih2 _ _ _ _ _ _ _
   | exact snappy_put.mono _ _ _ _
   | exact LeO.none _
   | refine LeO.ite ?_ ?_
   | refine LeO.bind ?_ (fun _=>?_)
  ·intro y0 y1 y2 y3 y4 y5 y6
   unfold snappy_Part_write.j1
   repeat' first
   | (with_reducible exact ih0 _ _ _ _ _ _ _)
   | (with_reducible exact ih1 _ _ _ _ _ _ _)
   | (with_reducible exact ih2 _ _ _ _ _ _ _)
   | (with_reducible exact snappy_put.mono _ _ _ _)
   | (with_reducible exact LeO.refl _)
   | (with_reducible exact LeO.none _)
   | (with_reducible refine LeO.ite ?_ ?_)
   | (with_reducible refine LeO.bind ?_ (fun _=>?_))
   | exact ih0 _ _ _ _ _ _ _
   | exact ih1 _ _ _ _ _ _ _
   | exact ih2 _ _ _ _ _ _ _
   | exact snappy_put.mono _ _ _ _
   | exact LeO.none _
   | refine LeO.ite ?_ ?_
   | refine LeO.bind ?_ (fun _=>?_)
  ·intro y0 y1 y2 y3 y4 y5 y6
   unfold snappy_Part_write.l0
   repeat' first
   | (with_reducible exact ih0 _ _ _ _ _ _ _)
   | (with_reducible exact ih1 _ _ _ _ _ _ _)
   | (with_reducible exact ih2 _ _ _ _ _ _ _)
   | (with_reducible exact snappy_put.mono _ _ _ _)
   | (with_reducible exact LeO.refl _)
   | (with_reducible exact LeO.none _)
   | (with_reducible refine LeO.ite ?_ ?_)
   | (with_reducible refine LeO.bind ?_ (fun _=>?_))
   | exact ih0 _ _ _ _ _ _ _
   | exact ih1 _ _ _ _ _ _ _
   | exact ih2 _ _ _ _ _ _ _
   | exact snappy_put.mono _ _ _ _
   | exact LeO.none _
   | refine LeO.ite ?_ ?_
   | refine LeO.bind ?_ (fun _=>?_)
theorem snappy_Part_write.mono : ∀ a0 a1 a2 a3 a4 k, LeO (snappy_Part_write.f k a0 a1 a2 a3 a4) (snappy_Part_write.f (k + 1) a0 a1 a2 a3 a4) := by
 intro a0 a1 a2 a3 a4 k
 obtain ⟨ih0,ih1,ih2⟩ := snappy_Part_write.mono_l k
 unfold snappy_Part_write.f
 repeat' first
   | (with_reducible exact ih0 _ _ _ _ _ _ _)
   | (with_reducible exact ih1 _ _ _ _ _ _ _)
   | (with_reducible exact ih2 _ _ _ _ _ _ _)
   | (with_reducible exact snappy_put.mono _ _ _ _)
   | (with_reducible exact LeO.refl _)
   | (with_reducible exact LeO.none _)
   | (with_reducible refine LeO.ite ?_ ?_)
   | (with_reducible refine LeO.bind ?_ (fun _=>?_))
   | exact ih0 _ _ _ _ _ _ _
   | exact ih1 _ _ _ _ _ _ _
   | exact ih2 _ _ _ _ _ _ _
   | exact snappy_put.mono _ _ _ _
   | exact LeO.none _
   | refine LeO.ite ?_ ?_
   | refine LeO.bind ?_ (fun _=>?_)
def snappy_Part_write.T5 : Bool × List (List Nat × List Nat) := (true, [([], []), ([], []), ([1], [1]), ([2], [2]), ([3], [3]), ([4], [4]), ([5], [5]), ([6], [6]), ([0, 7], [0, 7]), ([], []), ([9], [9]), ([8, 10, 8], [8, 10]), ([11, 11, 0, 1, 2, 3, 4, 5, 6, 7, 8, 9, 10, 11], [11])])
def snappy_Part_write.B5 : List Nat := [0, 0, 2, 6, 14, 30, 62, 126, 255, 0, 512, 2047, 4095]
theorem snappy_Part_write.tab5 : rtab .any (opsOf Try.f42 5) = snappy_Part_write.T5 := by kernel_rfl
theorem snappy_Part_write.bits5 : waitsOk snappy_Part_write.T5.2 snappy_Part_write.B5 = true := by kernel_rfl
def snappy_Part_write.T7 : Bool × List (List Nat × List Nat) := (true, [([], []), ([], []), ([1], [1]), ([2], [2]), ([3], [3]), ([4], [4]), ([5], [5]), ([6], [6]), ([0, 7], [0, 7]), ([], []), ([9], [9]), ([8, 10, 8], [8, 10]), ([11, 11, 0, 1, 2, 3, 4, 5, 6, 7, 8, 9, 10, 11], [11])])
def snappy_Part_write.B7 : List Nat := [0, 0, 2, 6, 14, 30, 62, 126, 255, 0, 512, 2047, 4095]
theorem snappy_Part_write.tab7 : rtab .any (opsOf Try.f42 7) = snappy_Part_write.T7 := by kernel_rfl
theorem snappy_Part_write.bits7 : waitsOk snappy_Part_write.T7.2 snappy_Part_write.B7 = true := by kernel_rfl
def snappy_Part_write.T9 : Bool × List (List Nat × List Nat) := (true, [([], []), ([], []), ([1], [1]), ([2], [2]), ([3], [3]), ([0, 4], [0, 4]), ([], []), ([6], [6]), ([5, 7, 5], [5, 7]), ([8, 8, 0, 1, 2, 3, 4, 5, 6, 7, 8], [8])])
def snappy_Part_write.B9 : List Nat := [0, 0, 2, 6, 14, 31, 0, 64, 255, 511]
theorem snappy_Part_write.tab9 : rtab .any (opsOf Try.f42 9) = snappy_Part_write.T9 := by kernel_rfl
theorem snappy_Part_write.bits9 : waitsOk snappy_Part_write.T9.2 snappy_Part_write.B9 = true := by kernel_rfl
def snappy_Part_write.T13 : Bool × List (List Nat × List Nat) := (true, [([], []), ([], []), ([1], [1]), ([2], [2]), ([3], [3]), ([4], [4]), ([5], [5]), ([6], [6]), ([0, 7], [0, 7]), ([], []), ([], []), ([8, 9, 10, 8], [8, 9, 10]), ([], []), ([12], [12]), ([11, 13, 11], [11, 13]), ([14, 14, 0, 1, 2, 3, 4, 5, 6, 7, 8, 9, 10, 11, 12, 13, 14], [14])])
def snappy_Part_write.B13 : List Nat := [0, 0, 2, 6, 14, 30, 62, 126, 255, 0, 0, 2047, 0, 4096, 16383, 32767]
theorem snappy_Part_write.tab13 : rtab .any (opsOf Try.f42 13) = snappy_Part_write.T13 := by kernel_rfl
theorem snappy_Part_write.bits13 : waitsOk snappy_Part_write.T13.2 snappy_Part_write.B13 = true := by kernel_rfl
set_option maxHeartbeats 8000000 in
set_option maxRecDepth 100000 in
theorem snappy_Part_write.calls (k : Nat) (a0_0 : Bool) (a0_1 : ByteArray) (a0_2 : Int) (a0_3 : Int) (P1_ : Nat → Prop) (u9000_ : Value) (l1 : List Int) (r : List Int) (w0 w : World) (hB : Below w0.heap.size w0 w) (ho1 : Kd.R (Kd.int .u8) 5 w w0.heap.size P1_ u9000_ l1) (h : snappy_Part_write.f k a0_0 a0_1 a0_2 a0_3 l1 = some r) :
  Calls Try.prog 42 #[.agg #[.bool a0_0,.string a0_1,.int .i64 a0_2,.int .i64 a0_3],u9000_] w fun e w'=>∃ v0_ : Value,e = .returned (v0_) ∧ Kd.R (Kd.int .u8) 5 w' w0.heap.size (fun k_=>(P1_ k_ ∨ w.heap.size ≤ k_)) v0_ r ∧ Below w0.heap.size w0 w' ∧ Kept w w' (fun k_=>P1_ k_) := by
 have hu35 := Try.underlying35
 have HO1 := Aside0.mk (show Kd.R (Kd.int .u8) 5 w w0.heap.size (fun k_=>(P1_ k_ ∨ w.heap.size ≤ k_)) u9000_ l1 from Kd.R_mono ho1 (fun k_ hk=>(.inl hk)))
 have HK := Aside0.mk (Kept.refl w (fun k_=>P1_ k_))
 have HW0 := Aside0.mk hB.size
 have HB := Aside0.mk hB
 clear hB
 have H : (if a0_0 = true then (if a0_3 ≥ 4 then (if a0_3 ≤ 11 then (snappy_Part_write.j0 k l1 (wrap64 ((a0_1.size : Int) - 1)) (decide (a0_2 < 2048)) a0_0 a0_1 a0_2 a0_3) else (snappy_Part_write.j0 k l1 (wrap64 ((a0_1.size : Int) - 1)) false a0_0 a0_1 a0_2 a0_3)) else (snappy_Part_write.j0 k l1 (wrap64 ((a0_1.size : Int) - 1)) false a0_0 a0_1 a0_2 a0_3)) else (snappy_Part_write.j0 k l1 (wrap64 ((a0_1.size : Int) - 1)) false a0_0 a0_1 a0_2 a0_3)) = some r := h
 clear h
 have HC3 := Aside0.mk H
 clear H
 go_enter Try.func42,Try.ntmps42
 go_upto_region 2 with (first|((with_reducible refine gate_dst (N := 2) rfl ?_);refine box_event ?hg (N := 2) ?hd (cs := #[.bool a0_0,.string a0_1,.int .i64 a0_2,.int .i64 a0_3]) (t := 35) ?hr ?_;(case hd=>rfl);(case hg=>rfl);(case hr=>first|(go_simp;done)|(go_simp;rfl)|(go_simp;simp [my_u8w];done));intro gb224 hg w4 hbox hb;have n0_ := Aside0.mk (Kd.R_below q68_ hb);have n1_ := Aside0.mk (Kept.below (S := (fun k_=>P1_ k_)) q48_ hb);have n2_ := Aside0.mk (below_step (bl_) hb);have n3_ := Aside0.mk (hbox);have n4_ := Aside0.mk ((by rw [hg];exact q108_ : w.heap.size ≤ gb224));have n5_ := Aside0.mk ((by rw [hg];exact (below_size (bl_)) : w0.heap.size ≤ gb224));clear HO1;clear HK;clear HB;have HO1 := n0_;have HK := n1_;have HB := n2_;have BK224 := n3_;have GW224 := n4_;have GE224 := n5_;clear n0_ n1_ n2_ n3_ n4_ n5_;clear hb hbox hg;have hcz5_0 : w4.cell? ⟨gb224,0,none⟩ = some (.bool a0_0) := (blk_cell BK224.out 0).trans rfl;have hcz5_1 : w4.cell? ⟨gb224,1,none⟩ = some (.string a0_1) := (blk_cell BK224.out 1).trans rfl;have hcz5_2 : w4.cell? ⟨gb224,2,none⟩ = some (.int .i64 a0_2) := (blk_cell BK224.out 2).trans rfl;have hcz5_3 : w4.cell? ⟨gb224,3,none⟩ = some (.int .i64 a0_3) := (blk_cell BK224.out 3).trans rfl;have hfz5_0 := blk_frozen BK224.out 0;have hfz5_1 := blk_frozen BK224.out 1;have hfz5_2 := blk_frozen BK224.out 2;have hfz5_3 := blk_frozen BK224.out 3))
 (try simp only [Act.put,List.setIfInBounds_toArray,List.set_cons_zero,List.set_cons_succ])
 go_cut [11] (fun v11 wc=>∃ (kq : Nat) (x11_2 : Bool),v11 = .bool x11_2 ∧ Aside0 (snappy_Part_write.j0 kq l1 (wrap64 ((a0_1.size : Int) - 1)) x11_2 a0_0 a0_1 a0_2 a0_3 = some r) ∧ Aside0 (kq ≤ k) ∧ Aside0 (Kd.R (Kd.int .u8) 5 wc w0.heap.size (fun k_=>(P1_ k_ ∨ w.heap.size ≤ k_)) u9000_ l1) ∧ Aside0 (wc.heap[gb224]? = some (.cells #[.bool a0_0,.string a0_1,.int .i64 a0_2,.int .i64 a0_3] 35 (0,0))) ∧ Aside0 (Kept w wc (fun k_=>P1_ k_)) ∧ Aside0 (Below w0.heap.size w0 wc))
 case first =>
  have H := HC3.out
  clear HC3
  by_cases c6 : a0_0 = true
  ·subst c6
   have H1 : (if a0_3 ≥ 4 then (if a0_3 ≤ 11 then (snappy_Part_write.j0 k l1 (wrap64 ((a0_1.size : Int) - 1)) (decide (a0_2 < 2048)) true a0_1 a0_2 a0_3) else (snappy_Part_write.j0 k l1 (wrap64 ((a0_1.size : Int) - 1)) false true a0_1 a0_2 a0_3)) else (snappy_Part_write.j0 k l1 (wrap64 ((a0_1.size : Int) - 1)) false true a0_1 a0_2 a0_3)) = some r := by rw [if_pos rfl] at H;exact H
   clear H
   have H := H1
   clear H1
   by_cases c7 : a0_3 ≥ 4
   ·rw [if_pos c7] at H
    have c7b0 : decide (4 ≤ a0_3) = true := decide_eq_true c7
    clear c7
    (first|rw [c7b0]|(simp only [i64_w,i32_w];rw [c7b0])|skip)
    by_cases c8 : a0_3 ≤ 11
    ·rw [if_pos c8] at H
     have c8b0 : decide (a0_3 ≤ 11) = true := decide_eq_true c8
     clear c8
     have H' := Aside0.mk H
     clear H
     have hcz9_0 : w4.cell? ⟨gb224,0,none⟩ = some (.bool true) := (blk_cell BK224.out 0).trans rfl
     have hcz9_1 : w4.cell? ⟨gb224,1,none⟩ = some (.string a0_1) := (blk_cell BK224.out 1).trans rfl
     have hcz9_2 : w4.cell? ⟨gb224,2,none⟩ = some (.int .i64 a0_2) := (blk_cell BK224.out 2).trans rfl
     have hcz9_3 : w4.cell? ⟨gb224,3,none⟩ = some (.int .i64 a0_3) := (blk_cell BK224.out 3).trans rfl
     have hfz9_0 := blk_frozen BK224.out 0
     have hfz9_1 := blk_frozen BK224.out 1
     have hfz9_2 := blk_frozen BK224.out 2
     have hfz9_3 := blk_frozen BK224.out 3
     go_wp2
     go_meet
     case rel=>exact ⟨_,(decide (a0_2 < 2048)),q4_,H',⟨q50_⟩,⟨q68_⟩,⟨q32_⟩,⟨q14_⟩,⟨q12_⟩⟩
    ·rw [if_neg c8] at H
     have c8b0 : decide (a0_3 ≤ 11) = false := decide_eq_false c8
     clear c8
     have H' := Aside0.mk H
     clear H
     have hcz10_0 : w4.cell? ⟨gb224,0,none⟩ = some (.bool true) := (blk_cell BK224.out 0).trans rfl
     have hcz10_1 : w4.cell? ⟨gb224,1,none⟩ = some (.string a0_1) := (blk_cell BK224.out 1).trans rfl
     have hcz10_2 : w4.cell? ⟨gb224,2,none⟩ = some (.int .i64 a0_2) := (blk_cell BK224.out 2).trans rfl
     have hcz10_3 : w4.cell? ⟨gb224,3,none⟩ = some (.int .i64 a0_3) := (blk_cell BK224.out 3).trans rfl
     have hfz10_0 := blk_frozen BK224.out 0
     have hfz10_1 := blk_frozen BK224.out 1
     have hfz10_2 := blk_frozen BK224.out 2
     have hfz10_3 := blk_frozen BK224.out 3
     go_wp2
     go_meet
     case rel=>exact ⟨_,(false),q4_,H',⟨q50_⟩,⟨q68_⟩,⟨q32_⟩,⟨q14_⟩,⟨q12_⟩⟩
   ·rw [if_neg c7] at H
    have c7b0 : decide (4 ≤ a0_3) = false := decide_eq_false c7
    clear c7
    (first|rw [c7b0]|(simp only [i64_w,i32_w];rw [c7b0])|skip)
    have H' := Aside0.mk H
    clear H
    have hcz11_0 : w4.cell? ⟨gb224,0,none⟩ = some (.bool true) := (blk_cell BK224.out 0).trans rfl
    have hcz11_1 : w4.cell? ⟨gb224,1,none⟩ = some (.string a0_1) := (blk_cell BK224.out 1).trans rfl
    have hcz11_2 : w4.cell? ⟨gb224,2,none⟩ = some (.int .i64 a0_2) := (blk_cell BK224.out 2).trans rfl
    have hcz11_3 : w4.cell? ⟨gb224,3,none⟩ = some (.int .i64 a0_3) := (blk_cell BK224.out 3).trans rfl
    have hfz11_0 := blk_frozen BK224.out 0
    have hfz11_1 := blk_frozen BK224.out 1
    have hfz11_2 := blk_frozen BK224.out 2
    have hfz11_3 := blk_frozen BK224.out 3
    go_wp2
    go_meet
    case rel=>exact ⟨_,(false),q4_,H',⟨q50_⟩,⟨q68_⟩,⟨q32_⟩,⟨q14_⟩,⟨q12_⟩⟩
  ·replace c6 := Bool.eq_false_iff.mpr c6
   subst c6
   have H1 : (snappy_Part_write.j0 k l1 (wrap64 ((a0_1.size : Int) - 1)) false false a0_1 a0_2 a0_3) = some r := by rw [if_neg (show ¬ (false = true) by decide)] at H;exact H
   clear H
   have H := H1
   clear H1
   have H' := Aside0.mk H
   clear H
   have hcz12_0 : w4.cell? ⟨gb224,0,none⟩ = some (.bool false) := (blk_cell BK224.out 0).trans rfl
   have hcz12_1 : w4.cell? ⟨gb224,1,none⟩ = some (.string a0_1) := (blk_cell BK224.out 1).trans rfl
   have hcz12_2 : w4.cell? ⟨gb224,2,none⟩ = some (.int .i64 a0_2) := (blk_cell BK224.out 2).trans rfl
   have hcz12_3 : w4.cell? ⟨gb224,3,none⟩ = some (.int .i64 a0_3) := (blk_cell BK224.out 3).trans rfl
   have hfz12_0 := blk_frozen BK224.out 0
   have hfz12_1 := blk_frozen BK224.out 1
   have hfz12_2 := blk_frozen BK224.out 2
   have hfz12_3 := blk_frozen BK224.out 3
   go_wp2
   go_meet
   case rel=>exact ⟨_,(false),q4_,H',⟨q50_⟩,⟨q68_⟩,⟨q32_⟩,⟨q14_⟩,⟨q12_⟩⟩
 case rest =>
  clear HC3
  try clear p2
  try clear c4
  try clear c6
  try clear p6
  try clear c7
  try clear c7b0
  try clear c8
  try clear c8b0
  try clear hcz10_0
  try clear hcz10_1
  try clear hcz10_2
  try clear hcz10_3
  try clear hcz11_0
  try clear hcz11_1
  try clear hcz11_2
  try clear hcz11_3
  try clear hcz12_0
  try clear hcz12_1
  try clear hcz12_2
  try clear hcz12_3
  try clear hcz5_0
  try clear hcz5_1
  try clear hcz5_2
  try clear hcz5_3
  try clear hcz9_0
  try clear hcz9_1
  try clear hcz9_2
  try clear hcz9_3
  try clear hfz10_0
  try clear hfz10_1
  try clear hfz10_2
  try clear hfz10_3
  try clear hfz11_0
  try clear hfz11_1
  try clear hfz11_2
  try clear hfz11_3
  try clear hfz12_0
  try clear hfz12_1
  try clear hfz12_2
  try clear hfz12_3
  try clear hfz5_0
  try clear hfz5_1
  try clear hfz5_2
  try clear hfz5_3
  try clear hfz9_0
  try clear hfz9_1
  try clear hfz9_2
  try clear hfz9_3
  obtain ⟨kq,x11_2,rfl,HA,HJ2,HO_1,BK224,HK,HB⟩ := hcut
  cases kq with
  | zero=>exact absurd HA.out (by simp [snappy_Part_write.j0])
  | succ kj2 =>
   have H := HA.out
   clear HA
   simp only [snappy_Part_write.j0] at H
   by_cases c13 : x11_2 = true
   ·subst c13
    have H1 : ((some (([(Go.bits .or .i64 (Go.bits .or .i64 (wrap64 ((a0_2 / 256) * 32)) (wrap64 ((wrap64 (a0_3 - 4)) * 4))) 1) % 256,(a0_2) % 256] : List Int) : List Int)).bind fun y225=>(if l1.length + y225.length < 140737488355328 then (some (l1 ++ y225)) else (none))) = some r := by rw [if_pos rfl] at H;exact H
    clear H
    have H := H1
    clear H1
    obtain ⟨y225,hy225⟩ : ∃ y_ : List Int,y_ = (([(Go.bits .or .i64 (Go.bits .or .i64 (wrap64 ((a0_2 / 256) * 32)) (wrap64 ((wrap64 (a0_3 - 4)) * 4))) 1) % 256,(a0_2) % 256] : List Int)) := ⟨_,rfl⟩
    replace H : (if l1.length + y225.length < 140737488355328 then (some (l1 ++ y225)) else (none)) = some r := by first|(rw [hy225];with_reducible exact H)|(have H2_ := (Option.bind_some _ _).symm.trans H;rw [hy225];with_reducible exact H2_)|(have H2_ := (Option.bind_some _ _).symm.trans H;with_reducible exact H2_)|with_reducible exact H|(rw [hy225];exact H)|exact H
    have Ny225 := Aside0.mk hy225
    clear hy225
    by_cases c14 : l1.length + y225.length < 140737488355328
    ·rw [if_pos c14] at H
     have LMc14 := Aside0.mk c14
     clear c14
     obtain ⟨y228,hy228⟩ : ∃ y_ : List Int,y_ = (l1 ++ y225) := ⟨_,rfl⟩
     replace H : (some y228) = some r := by first|(rw [hy228];with_reducible exact H)|(have H2_ := (Option.bind_some _ _).symm.trans H;rw [hy228];with_reducible exact H2_)|(have H2_ := (Option.bind_some _ _).symm.trans H;with_reducible exact H2_)|with_reducible exact H|(rw [hy228];exact H)|exact H
     have Ny228 := Aside0.mk hy228
     clear hy228
     obtain rfl := Option.some.inj H
     have hcz15_0 : wc.cell? ⟨gb224,0,none⟩ = some (.bool a0_0) := (blk_cell BK224.out 0).trans rfl
     have hcz15_1 : wc.cell? ⟨gb224,1,none⟩ = some (.string a0_1) := (blk_cell BK224.out 1).trans rfl
     have hcz15_2 : wc.cell? ⟨gb224,2,none⟩ = some (.int .i64 a0_2) := (blk_cell BK224.out 2).trans rfl
     have hcz15_3 : wc.cell? ⟨gb224,3,none⟩ = some (.int .i64 a0_3) := (blk_cell BK224.out 3).trans rfl
     have hfz15_0 := blk_frozen BK224.out 0
     have hfz15_1 := blk_frozen BK224.out 1
     have hfz15_2 := blk_frozen BK224.out 2
     have hfz15_3 := blk_frozen BK224.out 3
     go_wp2_with (first|((with_reducible refine gate_dst (N := 44) rfl ?_);refine Kd.R_lit (Kd.int .u8) _ 5 ?hg (N := 44) ?hd (xs := ([(Go.bits .or .i64 (Go.bits .or .i64 (wrap64 ((a0_2 / 256) * 32)) (wrap64 ((wrap64 (a0_3 - 4)) * 4))) 1) % 256,(a0_2) % 256] : List Int)) (inner := [.int .u8 ((Go.bits .or .i64 (Go.bits .or .i64 (wrap64 ((a0_2 / 256) * 32)) (wrap64 ((wrap64 (a0_3 - 4)) * 4))) 1) % 256),.int .u8 ((a0_2) % 256)]) (ok := fun _=>True) (okp := fun _=>True) ?hr ?hp (fun _ hk=>hk) trivial (Below.refl _ _) (Nat.le_refl _) (by simp) ?_;(case hd=>rfl);(case hg=>rfl);(case hr=>first|(go_simp;done)|(go_simp;rfl)|(go_simp;simp [my_u8w];done));(case hp=>exact (Reps.one (show Kd.M (Kd.int .u8) _ _ _ ((Go.bits .or .i64 (Go.bits .or .i64 (wrap64 ((a0_2 / 256) * 32)) (wrap64 ((wrap64 (a0_3 - 4)) * 4))) 1) % 256) [.int .u8 ((Go.bits .or .i64 (Go.bits .or .i64 (wrap64 ((a0_2 / 256) * 32)) (wrap64 ((wrap64 (a0_3 - 4)) * 4))) 1) % 256)] from rfl) (Reps.one (show Kd.M (Kd.int .u8) _ _ _ ((a0_2) % 256) [.int .u8 ((a0_2) % 256)] from rfl) (Reps.none _ _))));intro v226 w16 ho17 hb hg_ hnew_;clear hg_ hnew_;(first|rw [← Ny225.out] at ho17|(simp only [Int.reduceToNat] at ho17;rw [← Ny225.out] at ho17));have n0_ := Aside0.mk (Kd.R_elder' q34_ (Kd.R_base ho17) hb);have n1_ := Aside0.mk (Kd.R_lower (Kd.R_new' (Kd.R_newM (M := fun k_=>(P1_ k_ ∨ w.heap.size ≤ k_)) ho17 q27_ (fun k_ h_=>.inr h_)) (Kd.R_lt q34_)) (below_size q12_));have n2_ := Aside0.mk (blk_below (g := gb224) (o := .cells #[.bool a0_0,.string a0_1,.int .i64 a0_2,.int .i64 a0_3] 35 (0,0)) q32_ hb);have n3_ := Aside0.mk (Kept.below (S := (fun k_=>P1_ k_)) q14_ hb);have n4_ := Aside0.mk (below_step q12_ hb);clear HO_1;clear BK224;clear HK;clear HB;have HO_1 := n0_;have HO227 := n1_;have BK224 := n2_;have HK := n3_;have HB := n4_;clear n0_ n1_ n2_ n3_ n4_;clear hb ho17;obtain ⟨Ao19,co19,eo19⟩ := Kd.R_slice HO227.out;subst eo19)|((with_reducible refine gate_builtin (b := .append) (xs := #[.tmp 29,.tmp 44]) rfl ?_);at_builtin;refine Kd.R_append_rows (Kd.int .u8) (w0 := w0) w0.heap.size rfl (.tmp 29) (.tmp 44) 28 5 (.int .u8 0) 1 rfl Try.underlying28 info5 rfl (by decide) q75_ u9000_ l1 y225 _ _ _ (fun k_=>(P1_ k_ ∨ w.heap.size ≤ k_) ∧ some k_ ≠ (.slice Ao19 y225.length co19 : Value).ownBlock) (fun _=>False) rfl rfl ?aO ?aR (fun _ _ h=>h) (fun _ h=>h.elim) ?aF ?aB ?aS ?aL ?_;(case aR=>repeat (first|exact (Kd.R_reads' HO227.out).2.2|(with_reducible refine Kd.C_alloc ?_ _)|(with_reducible refine Kd.C_drewN ?_ _)|(with_reducible refine Kd.C_drew ?_)));(case aB=>exact q12_);(case aF=>exact (fun k_ hk=>⟨(.inr (Nat.le_trans q27_ hk)),Kd.fresh' (Kd.R_lt (by (with_reducible repeat (first|apply Kd.R_alloc|apply Kd.R_drewN|apply Kd.R_drew));exact HO227.out)) k_ hk⟩));(case aO=>exact q34_);(case aS=>exact (below_size q12_));(case aL=>have := LMc14.out;omega);intro v229 w18 ho hb hg hat;rw [← Ny228.out] at ho;have n0_ := Aside0.mk (blk_grown (g := gb224) (o := .cells #[.bool a0_0,.string a0_1,.int .i64 a0_2,.int .i64 a0_3] 35 (0,0)) q32_ hg (Kd.R_ne HO_1.out BK224.out (by decide)));have n1_ := Aside0.mk (Kd.R_after (ok := (fun k_=>(P1_ k_ ∨ w.heap.size ≤ k_))) (by (with_reducible repeat (first|apply Kd.R_alloc|apply Kd.R_drewN|apply Kd.R_drew));exact Kd.R_mono HO227.out (fun _ hk=>⟨hk.1.1,hk.2⟩)) hg hat);have n2_ := Aside0.mk (hb);have n3_ := Aside0.mk (Kept.of_grown (S := (fun k_=>P1_ k_)) hg q14_ (fun k_ e_=>(HO_1.out.1 k_ e_).1));have n4_ := Aside0.mk (ho);clear BK224;clear HO227;clear HB;clear HK;clear HO_1;have BK224 := n0_;have HO227 := n1_;have HB := n2_;have HK := n3_;have HO230 := n4_;clear n0_ n1_ n2_ n3_ n4_;clear ho hb hg hat))
     go_ret
     exact ⟨_,q1_,by (with_reducible repeat (first|apply Kd.R_alloc|apply Kd.R_drewN|apply Kd.R_drew));exact Kd.R_mono HO230.out (fun _ hk=>hk.1),q12_,q14_⟩
    ·rw [if_neg c14] at H
     exact absurd H (by simp)
   ·replace c13 := Bool.eq_false_iff.mpr c13
    subst c13
    have H1 : (if a0_0 = true then (snappy_Part_write.j1 kj2 l1 (wrap64 ((a0_1.size : Int) - 1)) (decide (a0_2 < 65536)) a0_0 a0_1 a0_2 a0_3) else (snappy_Part_write.j1 kj2 l1 (wrap64 ((a0_1.size : Int) - 1)) false a0_0 a0_1 a0_2 a0_3)) = some r := by rw [if_neg (show ¬ (false = true) by decide)] at H;exact H
    clear H
    have H := H1
    clear H1
    have HC20 := Aside0.mk H
    clear H
    go_upto_region 4 with (fail)
    go_cut [46] (fun v46 wc=>∃ (kq : Nat) (x46_19 : Bool),v46 = .bool x46_19 ∧ Aside0 (snappy_Part_write.j1 kq l1 (wrap64 ((a0_1.size : Int) - 1)) x46_19 a0_0 a0_1 a0_2 a0_3 = some r) ∧ Aside0 (kq ≤ kj2) ∧ Aside0 (Kd.R (Kd.int .u8) 5 wc w0.heap.size (fun k_=>(P1_ k_ ∨ w.heap.size ≤ k_)) u9000_ l1) ∧ Aside0 (wc.heap[gb224]? = some (.cells #[.bool a0_0,.string a0_1,.int .i64 a0_2,.int .i64 a0_3] 35 (0,0))) ∧ Aside0 (Kept w wc (fun k_=>P1_ k_)) ∧ Aside0 (Below w0.heap.size w0 wc))
    case first =>
     have H := HC20.out
     clear HC20
     by_cases c21 : a0_0 = true
     ·subst c21
      have H1 : (snappy_Part_write.j1 kj2 l1 (wrap64 ((a0_1.size : Int) - 1)) (decide (a0_2 < 65536)) true a0_1 a0_2 a0_3) = some r := by rw [if_pos rfl] at H;exact H
      clear H
      have H := H1
      clear H1
      have H' := Aside0.mk H
      clear H
      have hcz22_0 : wc.cell? ⟨gb224,0,none⟩ = some (.bool true) := (blk_cell BK224.out 0).trans rfl
      have hcz22_1 : wc.cell? ⟨gb224,1,none⟩ = some (.string a0_1) := (blk_cell BK224.out 1).trans rfl
      have hcz22_2 : wc.cell? ⟨gb224,2,none⟩ = some (.int .i64 a0_2) := (blk_cell BK224.out 2).trans rfl
      have hcz22_3 : wc.cell? ⟨gb224,3,none⟩ = some (.int .i64 a0_3) := (blk_cell BK224.out 3).trans rfl
      have hfz22_0 := blk_frozen BK224.out 0
      have hfz22_1 := blk_frozen BK224.out 1
      have hfz22_2 := blk_frozen BK224.out 2
      have hfz22_3 := blk_frozen BK224.out 3
      go_wp2
      go_meet
      case rel=>exact ⟨_,(decide (a0_2 < 65536)),q4_,H',⟨q98_⟩,⟨q34_⟩,⟨q32_⟩,⟨q14_⟩,⟨q12_⟩⟩
     ·replace c21 := Bool.eq_false_iff.mpr c21
      subst c21
      have H1 : (snappy_Part_write.j1 kj2 l1 (wrap64 ((a0_1.size : Int) - 1)) false false a0_1 a0_2 a0_3) = some r := by rw [if_neg (show ¬ (false = true) by decide)] at H;exact H
      clear H
      have H := H1
      clear H1
      have H' := Aside0.mk H
      clear H
      have hcz23_0 : wc.cell? ⟨gb224,0,none⟩ = some (.bool false) := (blk_cell BK224.out 0).trans rfl
      have hcz23_1 : wc.cell? ⟨gb224,1,none⟩ = some (.string a0_1) := (blk_cell BK224.out 1).trans rfl
      have hcz23_2 : wc.cell? ⟨gb224,2,none⟩ = some (.int .i64 a0_2) := (blk_cell BK224.out 2).trans rfl
      have hcz23_3 : wc.cell? ⟨gb224,3,none⟩ = some (.int .i64 a0_3) := (blk_cell BK224.out 3).trans rfl
      have hfz23_0 := blk_frozen BK224.out 0
      have hfz23_1 := blk_frozen BK224.out 1
      have hfz23_2 := blk_frozen BK224.out 2
      have hfz23_3 := blk_frozen BK224.out 3
      go_wp2
      go_meet
      case rel=>exact ⟨_,(false),q4_,H',⟨q98_⟩,⟨q34_⟩,⟨q32_⟩,⟨q14_⟩,⟨q12_⟩⟩
    case rest =>
     clear HC20
     try clear c1
     try clear c2
     try clear p2
     try clear c4
     try clear c6
     try clear p6
     try clear c7
     try clear c7b0
     try clear c8
     try clear c8b0
     try clear c13
     try clear c14
     try clear c21
     try clear hcz10_0
     try clear hcz10_1
     try clear hcz10_2
     try clear hcz10_3
     try clear hcz11_0
     try clear hcz11_1
     try clear hcz11_2
     try clear hcz11_3
     try clear hcz12_0
     try clear hcz12_1
     try clear hcz12_2
     try clear hcz12_3
     try clear hcz15_0
     try clear hcz15_1
     try clear hcz15_2
     try clear hcz15_3
     try clear hcz22_0
     try clear hcz22_1
     try clear hcz22_2
     try clear hcz22_3
     try clear hcz23_0
     try clear hcz23_1
     try clear hcz23_2
     try clear hcz23_3
     try clear hcz5_0
     try clear hcz5_1
     try clear hcz5_2
     try clear hcz5_3
     try clear hcz9_0
     try clear hcz9_1
     try clear hcz9_2
     try clear hcz9_3
     try clear hfz10_0
     try clear hfz10_1
     try clear hfz10_2
     try clear hfz10_3
     try clear hfz11_0
     try clear hfz11_1
     try clear hfz11_2
     try clear hfz11_3
     try clear hfz12_0
     try clear hfz12_1
     try clear hfz12_2
     try clear hfz12_3
     try clear hfz15_0
     try clear hfz15_1
     try clear hfz15_2
     try clear hfz15_3
     try clear hfz22_0
     try clear hfz22_1
     try clear hfz22_2
     try clear hfz22_3
     try clear hfz23_0
     try clear hfz23_1
     try clear hfz23_2
     try clear hfz23_3
     try clear hfz5_0
     try clear hfz5_1
     try clear hfz5_2
     try clear hfz5_3
     try clear hfz9_0
     try clear hfz9_1
     try clear hfz9_2
     try clear hfz9_3
     try clear p2
     try clear p6
     obtain ⟨kq,x46_19,rfl,HA,HJ19,HO_1,BK224,HK,HB⟩ := hcut
     cases kq with
     | zero=>exact absurd HA.out (by simp [snappy_Part_write.j1])
     | succ kj19 =>
      have H := HA.out
      clear HA
      simp only [snappy_Part_write.j1] at H
      by_cases c24 : x46_19 = true
      ·subst c24
       have H1 : (if l1.length < 140737488355328 then ((snappy_put.f kj19 (l1 ++ [(Go.bits .or .i64 (wrap64 ((wrap64 (a0_3 - 1)) * 4)) 2) % 256]) a0_2 2).bind fun t234=>(some t234)) else (none)) = some r := by rw [if_pos rfl] at H;exact H
       clear H
       have H := H1
       clear H1
       by_cases c25 : l1.length < 140737488355328
       ·rw [if_pos c25] at H
        have LMc25 := Aside0.mk c25
        clear c25
        obtain ⟨y231,hy231⟩ : ∃ y_ : List Int,y_ = (l1 ++ [(Go.bits .or .i64 (wrap64 ((wrap64 (a0_3 - 1)) * 4)) 2) % 256]) := ⟨_,rfl⟩
        replace H : ((snappy_put.f kj19 y231 a0_2 2).bind fun t234=>(some t234)) = some r := by first|(rw [hy231];with_reducible exact H)|(have H2_ := (Option.bind_some _ _).symm.trans H;rw [hy231];with_reducible exact H2_)|(have H2_ := (Option.bind_some _ _).symm.trans H;with_reducible exact H2_)|with_reducible exact H|(rw [hy231];exact H)|exact H
        have Ny231 := Aside0.mk hy231
        clear hy231
        replace H := Option.bind_eq_some_iff.mp H
        obtain ⟨t234,A260,H⟩ := H
        replace H : (some t234) = some r := H
        have A26 := Aside0.mk A260
        clear A260
        obtain rfl := Option.some.inj H
        try go_wp2
        have n0_ := Aside0.mk (Kd.R_drew HO_1.out)
        have n1_ := Aside0.mk (blk_drew BK224.out)
        have n2_ := Aside0.mk (Kept.drew HK.out)
        have n3_ := Aside0.mk (below_drew1 HB.out)
        clear HO_1
        clear BK224
        clear HK
        clear HB
        have HO_1 := n0_
        have BK224 := n1_
        have HK := n2_
        have HB := n3_
        clear n0_ n1_ n2_ n3_
        refine start_ (n := 13) (S := fun w'=>w'.cell? ⟨gb224,0,none⟩ = some (.bool a0_0) ∧ w'.cell? ⟨gb224,1,none⟩ = some (.string a0_1) ∧ w'.cell? ⟨gb224,2,none⟩ = some (.int .i64 a0_2) ∧ w'.cell? ⟨gb224,3,none⟩ = some (.int .i64 a0_3)) (ds := []) #[false,false,false,false,false,false,false,false,false,false,false,false,false] q9_ rfl rfl ⟨(blk_cell BK224.out 0).trans rfl,(blk_cell BK224.out 1).trans rfl,(blk_cell BK224.out 2).trans rfl,(blk_cell BK224.out 3).trans rfl⟩ (fun hHeld=>?_);refine with_tabW snappy_Part_write.tab5 snappy_Part_write.bits5 (fun HT_ HW_=>?_)
        generalize wc.drew = w27 at HO_1 BK224 HK HB hHeld ⊢
        refine pure_ (i := 0) (N := some 54) (v := ?_) (a' := ?_) #[true,false,false,false,false,false,false,false,false,false,false,false,false] rfl rfl (any_of HT_.out q9_) (fun _ _ _ h=>h) (Or.inl ⟨by rfl,?_⟩) ?_ ?_
        rotate_left
        ·intro w'
         go_simp
         with_reducible rfl
        rotate_left
        ·simp only [Act.put,List.setIfInBounds_toArray,List.set_cons_zero,List.set_cons_succ,i64_w,i32_w]
         rfl
        refine pure_ (i := 1) (N := some 55) (v := ?_) (a' := ?_) #[true,true,false,false,false,false,false,false,false,false,false,false,false] rfl rfl (any_of HT_.out q9_) (fun _ _ _ h=>h) (Or.inl ⟨by rfl,?_⟩) ?_ ?_
        rotate_left
        ·intro w'
         go_simp
         with_reducible rfl
        rotate_left
        ·simp only [Act.put,List.setIfInBounds_toArray,List.set_cons_zero,List.set_cons_succ,i64_w,i32_w]
         rfl
        refine pure_ (i := 9) (N := some 63) (v := ?_) (a' := ?_) #[true,true,false,false,false,false,false,false,false,true,false,false,false] rfl rfl (any_of HT_.out q9_) (fun _ _ _ h=>h) (Or.inl ⟨by rfl,?_⟩) ?_ ?_
        rotate_left
        ·intro w'
         go_simp
         with_reducible rfl
        rotate_left
        ·simp only [Act.put,List.setIfInBounds_toArray,List.set_cons_zero,List.set_cons_succ,i64_w,i32_w]
         rfl
        refine take_ (i := 2) (N := some 56) (v := ?_) (a' := ?_) #[true,true,true,false,false,false,false,false,false,true,false,false,false] rfl rfl (take_ofW HT_.out HW_.out q9_) (fun _ _ _ h=>h) (Or.inl ⟨by rfl,?_⟩) hHeld ?_ ?_
        rotate_left
        ·rintro w' ⟨s0,s1,s2,s3⟩
         go_simp
         with_reducible rfl
        rotate_left
        ·simp only [Act.put,List.setIfInBounds_toArray,List.set_cons_zero,List.set_cons_succ,i64_w,i32_w]
         rfl
        refine pure_ (i := 3) (N := some 57) (v := ?_) (a' := ?_) #[true,true,true,true,false,false,false,false,false,true,false,false,false] rfl rfl (any_of HT_.out q9_) (fun _ _ _ h=>h) (Or.inl ⟨by rfl,?_⟩) ?_ ?_
        rotate_left
        ·intro w'
         go_simp
         with_reducible rfl
        rotate_left
        ·simp only [Act.put,List.setIfInBounds_toArray,List.set_cons_zero,List.set_cons_succ,i64_w,i32_w]
         rfl
        refine pure_ (i := 4) (N := some 58) (v := ?_) (a' := ?_) #[true,true,true,true,true,false,false,false,false,true,false,false,false] rfl rfl (any_of HT_.out q9_) (fun _ _ _ h=>h) (Or.inl ⟨by rfl,?_⟩) ?_ ?_
        rotate_left
        ·intro w'
         go_simp
         with_reducible rfl
        rotate_left
        ·simp only [Act.put,List.setIfInBounds_toArray,List.set_cons_zero,List.set_cons_succ,i64_w,i32_w]
         rfl
        refine pure_ (i := 5) (N := some 59) (v := ?_) (a' := ?_) #[true,true,true,true,true,true,false,false,false,true,false,false,false] rfl rfl (any_of HT_.out q9_) (fun _ _ _ h=>h) (Or.inl ⟨by rfl,?_⟩) ?_ ?_
        rotate_left
        ·intro w'
         go_simp
         with_reducible rfl
        rotate_left
        ·simp only [Act.put,List.setIfInBounds_toArray,List.set_cons_zero,List.set_cons_succ,i64_w,i32_w]
         rfl
        refine pure_ (i := 6) (N := some 60) (v := ?_) (a' := ?_) #[true,true,true,true,true,true,true,false,false,true,false,false,false] rfl rfl (any_of HT_.out q9_) (fun _ _ _ h=>h) (Or.inl ⟨by rfl,?_⟩) ?_ ?_
        rotate_left
        ·intro w'
         go_simp
         with_reducible rfl
        rotate_left
        ·simp only [Act.put,List.setIfInBounds_toArray,List.set_cons_zero,List.set_cons_succ,i64_w,i32_w]
         rfl
        refine take_ (i := 10) (N := some 64) (v := ?_) (a' := ?_) #[true,true,true,true,true,true,true,false,false,true,true,false,false] rfl rfl (take_ofW HT_.out HW_.out q9_) (fun _ _ _ h=>h) (Or.inl ⟨by rfl,?_⟩) hHeld ?_ ?_
        rotate_left
        ·rintro w' ⟨s0,s1,s2,s3⟩
         go_simp
         with_reducible rfl
        rotate_left
        ·simp only [Act.put,List.setIfInBounds_toArray,List.set_cons_zero,List.set_cons_succ,i64_w,i32_w]
         rfl
        refine one_ (i := 7) (N := some 61) #[true,true,true,true,true,true,true,true,false,true,true,false,false] rfl rfl (one_of HT_.out q9_) (by decide) (fun K hK=>?_)
        refine value_ (w1 := ?_) (v := ?_) (by rfl) rfl ?_ ?_
        rotate_left 2
        ·go_simp
         constructor
         ·rfl
         ·rfl
        refine hK.out _ _ ⟨(blk_cell (blk_alloc BK224.out _) 0).trans rfl,(blk_cell (blk_alloc BK224.out _) 1).trans rfl,(blk_cell (blk_alloc BK224.out _) 2).trans rfl,(blk_cell (blk_alloc BK224.out _) 3).trans rfl⟩ (fun hHeld=>?_)
        clear hK K
        refine norm_ (a' := ?_) ?_ ?_
        rotate_left
        ·show Act.put _ (some 61) _ = _
         simp only [Act.put,List.setIfInBounds_toArray,List.set_cons_zero,List.set_cons_succ,i64_w,i32_w]
         rfl
        refine one_ (i := 8) (N := some 62) #[true,true,true,true,true,true,true,true,true,true,true,false,false] rfl rfl (one_of HT_.out q9_) (by decide) (fun K hK=>?_)
        refine Kd.R_append_step (Kd.int .u8) (w0 := w0) w0.heap.size (by rfl) (.tmp 54) (.tmp 61) 28 5 (.int .u8 0) 1 rfl Try.underlying28 info5 rfl (by decide) q75_ u9000_ l1 ((Go.bits .or .i64 (wrap64 ((wrap64 (a0_3 - 1)) * 4)) 2) % 256) [.int .u8 ((Go.bits .or .i64 (wrap64 ((wrap64 (a0_3 - 1)) * 4)) 2) % 256)] (fun k_=>(P1_ k_ ∨ w.heap.size ≤ k_)) (fun _=>False) rfl rfl ?aP (fun _ hk=>hk.elim) ?aF ?aO ?aB ?aS ?aL ?_
        (case aP=>exact rfl)
        (case aB=>exact q12_)
        (case aF=>exact (fun k_ hk=>(.inr (Nat.le_trans q27_ hk))))
        (case aO=>exact q34_)
        (case aS=>exact (below_size q12_))
        (case aL=>have := LMc25.out;omega)
        intro v232 w28 ho hb hg hat
        rw [← Ny231.out] at ho
        have n0_ := Aside0.mk (blk_grown (g := gb224) (o := .cells #[.bool a0_0,.string a0_1,.int .i64 a0_2,.int .i64 a0_3] 35 (0,0)) q32_ hg (Kd.R_ne HO_1.out BK224.out (by decide)))
        have n1_ := Aside0.mk (hb)
        have n2_ := Aside0.mk (Kept.of_grown (S := (fun k_=>P1_ k_)) hg q14_ (fun k_ e_=>(HO_1.out.1 k_ e_)))
        have n3_ := Aside0.mk (ho)
        clear BK224
        clear HB
        clear HK
        clear HO_1
        have BK224 := n0_
        have HB := n1_
        have HK := n2_
        have HO233 := n3_
        clear n0_ n1_ n2_ n3_
        clear ho hb hg hat
        obtain ⟨Ao29,co29,eo29⟩ := Kd.R_slice HO233.out
        (first|subst eo29|(injection eo29 with f1_ f2_ f3_;have f4_ := f1_.symm;have f5_ := f3_.symm;clear f1_ f2_ f3_;subst f4_;subst f5_))
        refine hK.out _ _ ⟨(blk_cell BK224.out 0).trans rfl,(blk_cell BK224.out 1).trans rfl,(blk_cell BK224.out 2).trans rfl,(blk_cell BK224.out 3).trans rfl⟩ (fun hHeld=>?_)
        clear hK K
        refine norm_ (a' := ?_) ?_ ?_
        rotate_left
        ·show Act.put _ (some 62) _ = _
         simp only [Act.put,List.setIfInBounds_toArray,List.set_cons_zero,List.set_cons_succ,i64_w,i32_w]
         rfl
        refine one_ (i := 11) (N := some 65) #[true,true,true,true,true,true,true,true,true,true,true,true,false] rfl rfl (one_of HT_.out q9_) (by decide) (fun K hK=>?_)
        refine goes_ Try.func56 q9_ rfl #[.slice Ao29 y231.length co29,.int .i64 a0_2,.int .i64 2] (by rfl) rfl rfl q0_ ?_
        with_reducible refine (snappy_put.calls kj19 (fun k_=>some k_ = (.slice Ao29 y231.length co29 : Value).ownBlock) (.slice Ao29 y231.length co29) y231 a0_2 2 t234 w0 _ ?side1 ?side2 A26.out).mono ?_
        (case side1=>repeat (first|(with_reducible first|exact HB.out|apply below_alloc|apply pw_below_drewN|apply below_drew1|refine below_set ?_ GE224.out)|exact HB.out))
        (case side2=>exact Kd.R_tight rfl HO233.out)
        rintro e w30 ⟨v235,rfl,ho0,hb,hkp⟩
        refine ⟨_,rfl,?_⟩
        have n0_ := Aside0.mk (blk_kept q32_ hkp (fun hs_=>(fun e_=>(Kd.R_ne HO233.out BK224.out (by decide)) e_) hs_))
        have n1_ := Aside0.mk (Kd.R_mono (ok' := fun k_=>(P1_ k_ ∨ w.heap.size ≤ k_)) ho0 (fun k_ hk_=>Or.elim hk_ (fun hs_=>(HO233.out.1 k_ (hs_).symm)) (fun hn_=>(.inr (Nat.le_trans q27_ hn_)))))
        have n2_ := Aside0.mk (Kept.then_ (S := (fun k_=>P1_ k_)) q14_ hkp (fun k_ hs_=>(fun e_=>(HO233.out.1 k_ e_.symm)) hs_))
        have n3_ := Aside0.mk (hb)
        clear BK224
        clear HK
        clear HB
        clear HO233
        have BK224 := n0_
        have HO236 := n1_
        have HK := n2_
        have HB := n3_
        clear n0_ n1_ n2_ n3_
        (try clear hb)
        (try clear hkp)
        (try clear ho0)
        refine hK.out _ _ ⟨(blk_cell BK224.out 0).trans rfl,(blk_cell BK224.out 1).trans rfl,(blk_cell BK224.out 2).trans rfl,(blk_cell BK224.out 3).trans rfl⟩ (fun hHeld=>?_)
        clear hK K
        refine norm_ (a' := ?_) ?_ ?_
        rotate_left
        ·show Act.put _ (some 65) _ = _
         simp only [Act.put,List.setIfInBounds_toArray,List.set_cons_zero,List.set_cons_succ,i64_w,i32_w]
         rfl
        refine pure_ (i := 12) (N := some 4) (v := ?_) (a' := ?_) #[true,true,true,true,true,true,true,true,true,true,true,true,true] rfl rfl (any_of HT_.out q9_) (fun _ _ _ h=>h) (Or.inl ⟨by rfl,?_⟩) ?_ ?_
        rotate_left
        ·intro w'
         go_simp
         with_reducible rfl
        rotate_left
        ·simp only [Act.put,List.setIfInBounds_toArray,List.set_cons_zero,List.set_cons_succ,i64_w,i32_w]
         rfl
        refine done_ (done_of HT_.out q9_) ?_
        try go_wp2
        go_ret
        exact ⟨_,q1_,by (with_reducible repeat (first|apply Kd.R_alloc|apply Kd.R_drewN|apply Kd.R_drew));exact HO236.out,q12_,q14_⟩
       ·rw [if_neg c25] at H
        exact absurd H (by simp)
      ·replace c24 := Bool.eq_false_iff.mpr c24
       subst c24
       have H1 : (if a0_0 = true then (if l1.length < 140737488355328 then ((snappy_put.f kj19 (l1 ++ [(Go.bits .or .i64 (wrap64 ((wrap64 (a0_3 - 1)) * 4)) 3) % 256]) a0_2 4).bind fun t240=>(some t240)) else (none)) else (if (wrap64 ((a0_1.size : Int) - 1)) < 60 then (if l1.length < 140737488355328 then ((some (l1 ++ [(wrap64 ((wrap64 ((a0_1.size : Int) - 1)) * 4)) % 256] : List Int)).bind fun y243=>(if y243.length + a0_1.size < 140737488355328 then (some (y243 ++ bytesOf a0_1)) else (none))) else (none)) else (snappy_Part_write.l0 kj19 l1 (wrap64 ((a0_1.size : Int) - 1)) 1 a0_0 a0_1 a0_2 a0_3))) = some r := by rw [if_neg (show ¬ (false = true) by decide)] at H;exact H
       clear H
       have H := H1
       clear H1
       by_cases c31 : a0_0 = true
       ·subst c31
        have H1 : (if l1.length < 140737488355328 then ((snappy_put.f kj19 (l1 ++ [(Go.bits .or .i64 (wrap64 ((wrap64 (a0_3 - 1)) * 4)) 3) % 256]) a0_2 4).bind fun t240=>(some t240)) else (none)) = some r := by rw [if_pos rfl] at H;exact H
        clear H
        have H := H1
        clear H1
        by_cases c32 : l1.length < 140737488355328
        ·rw [if_pos c32] at H
         have LMc32 := Aside0.mk c32
         clear c32
         obtain ⟨y237,hy237⟩ : ∃ y_ : List Int,y_ = (l1 ++ [(Go.bits .or .i64 (wrap64 ((wrap64 (a0_3 - 1)) * 4)) 3) % 256]) := ⟨_,rfl⟩
         replace H : ((snappy_put.f kj19 y237 a0_2 4).bind fun t240=>(some t240)) = some r := by first|(rw [hy237];with_reducible exact H)|(have H2_ := (Option.bind_some _ _).symm.trans H;rw [hy237];with_reducible exact H2_)|(have H2_ := (Option.bind_some _ _).symm.trans H;with_reducible exact H2_)|with_reducible exact H|(rw [hy237];exact H)|exact H
         have Ny237 := Aside0.mk hy237
         clear hy237
         replace H := Option.bind_eq_some_iff.mp H
         obtain ⟨t240,A330,H⟩ := H
         replace H : (some t240) = some r := H
         have A33 := Aside0.mk A330
         clear A330
         obtain rfl := Option.some.inj H
         have hcz34_0 : wc.cell? ⟨gb224,0,none⟩ = some (.bool true) := (blk_cell BK224.out 0).trans rfl
         have hcz34_1 : wc.cell? ⟨gb224,1,none⟩ = some (.string a0_1) := (blk_cell BK224.out 1).trans rfl
         have hcz34_2 : wc.cell? ⟨gb224,2,none⟩ = some (.int .i64 a0_2) := (blk_cell BK224.out 2).trans rfl
         have hcz34_3 : wc.cell? ⟨gb224,3,none⟩ = some (.int .i64 a0_3) := (blk_cell BK224.out 3).trans rfl
         have hfz34_0 := blk_frozen BK224.out 0
         have hfz34_1 := blk_frozen BK224.out 1
         have hfz34_2 := blk_frozen BK224.out 2
         have hfz34_3 := blk_frozen BK224.out 3
         try go_wp2
         have n0_ := Aside0.mk (Kd.R_drew HO_1.out)
         have n1_ := Aside0.mk (blk_drew BK224.out)
         have n2_ := Aside0.mk (Kept.drew HK.out)
         have n3_ := Aside0.mk (below_drew1 HB.out)
         clear HO_1
         clear BK224
         clear HK
         clear HB
         have HO_1 := n0_
         have BK224 := n1_
         have HK := n2_
         have HB := n3_
         clear n0_ n1_ n2_ n3_
         refine start_ (n := 13) (S := fun w'=>w'.cell? ⟨gb224,0,none⟩ = some (.bool true) ∧ w'.cell? ⟨gb224,1,none⟩ = some (.string a0_1) ∧ w'.cell? ⟨gb224,2,none⟩ = some (.int .i64 a0_2) ∧ w'.cell? ⟨gb224,3,none⟩ = some (.int .i64 a0_3)) (ds := []) #[false,false,false,false,false,false,false,false,false,false,false,false,false] q9_ rfl rfl ⟨(blk_cell BK224.out 0).trans rfl,(blk_cell BK224.out 1).trans rfl,(blk_cell BK224.out 2).trans rfl,(blk_cell BK224.out 3).trans rfl⟩ (fun hHeld=>?_);refine with_tabW snappy_Part_write.tab7 snappy_Part_write.bits7 (fun HT_ HW_=>?_)
         generalize wc.drew = w35 at HO_1 BK224 HK HB hHeld ⊢
         refine pure_ (i := 0) (N := some 69) (v := ?_) (a' := ?_) #[true,false,false,false,false,false,false,false,false,false,false,false,false] rfl rfl (any_of HT_.out q9_) (fun _ _ _ h=>h) (Or.inl ⟨by rfl,?_⟩) ?_ ?_
         rotate_left
         ·intro w'
          go_simp
          with_reducible rfl
         rotate_left
         ·simp only [Act.put,List.setIfInBounds_toArray,List.set_cons_zero,List.set_cons_succ,i64_w,i32_w]
          rfl
         refine pure_ (i := 1) (N := some 70) (v := ?_) (a' := ?_) #[true,true,false,false,false,false,false,false,false,false,false,false,false] rfl rfl (any_of HT_.out q9_) (fun _ _ _ h=>h) (Or.inl ⟨by rfl,?_⟩) ?_ ?_
         rotate_left
         ·intro w'
          go_simp
          with_reducible rfl
         rotate_left
         ·simp only [Act.put,List.setIfInBounds_toArray,List.set_cons_zero,List.set_cons_succ,i64_w,i32_w]
          rfl
         refine pure_ (i := 9) (N := some 78) (v := ?_) (a' := ?_) #[true,true,false,false,false,false,false,false,false,true,false,false,false] rfl rfl (any_of HT_.out q9_) (fun _ _ _ h=>h) (Or.inl ⟨by rfl,?_⟩) ?_ ?_
         rotate_left
         ·intro w'
          go_simp
          with_reducible rfl
         rotate_left
         ·simp only [Act.put,List.setIfInBounds_toArray,List.set_cons_zero,List.set_cons_succ,i64_w,i32_w]
          rfl
         refine take_ (i := 2) (N := some 71) (v := ?_) (a' := ?_) #[true,true,true,false,false,false,false,false,false,true,false,false,false] rfl rfl (take_ofW HT_.out HW_.out q9_) (fun _ _ _ h=>h) (Or.inl ⟨by rfl,?_⟩) hHeld ?_ ?_
         rotate_left
         ·rintro w' ⟨s0,s1,s2,s3⟩
          go_simp
          with_reducible rfl
         rotate_left
         ·simp only [Act.put,List.setIfInBounds_toArray,List.set_cons_zero,List.set_cons_succ,i64_w,i32_w]
          rfl
         refine pure_ (i := 3) (N := some 72) (v := ?_) (a' := ?_) #[true,true,true,true,false,false,false,false,false,true,false,false,false] rfl rfl (any_of HT_.out q9_) (fun _ _ _ h=>h) (Or.inl ⟨by rfl,?_⟩) ?_ ?_
         rotate_left
         ·intro w'
          go_simp
          with_reducible rfl
         rotate_left
         ·simp only [Act.put,List.setIfInBounds_toArray,List.set_cons_zero,List.set_cons_succ,i64_w,i32_w]
          rfl
         refine pure_ (i := 4) (N := some 73) (v := ?_) (a' := ?_) #[true,true,true,true,true,false,false,false,false,true,false,false,false] rfl rfl (any_of HT_.out q9_) (fun _ _ _ h=>h) (Or.inl ⟨by rfl,?_⟩) ?_ ?_
         rotate_left
         ·intro w'
          go_simp
          with_reducible rfl
         rotate_left
         ·simp only [Act.put,List.setIfInBounds_toArray,List.set_cons_zero,List.set_cons_succ,i64_w,i32_w]
          rfl
         refine pure_ (i := 5) (N := some 74) (v := ?_) (a' := ?_) #[true,true,true,true,true,true,false,false,false,true,false,false,false] rfl rfl (any_of HT_.out q9_) (fun _ _ _ h=>h) (Or.inl ⟨by rfl,?_⟩) ?_ ?_
         rotate_left
         ·intro w'
          go_simp
          with_reducible rfl
         rotate_left
         ·simp only [Act.put,List.setIfInBounds_toArray,List.set_cons_zero,List.set_cons_succ,i64_w,i32_w]
          rfl
         refine pure_ (i := 6) (N := some 75) (v := ?_) (a' := ?_) #[true,true,true,true,true,true,true,false,false,true,false,false,false] rfl rfl (any_of HT_.out q9_) (fun _ _ _ h=>h) (Or.inl ⟨by rfl,?_⟩) ?_ ?_
         rotate_left
         ·intro w'
          go_simp
          with_reducible rfl
         rotate_left
         ·simp only [Act.put,List.setIfInBounds_toArray,List.set_cons_zero,List.set_cons_succ,i64_w,i32_w]
          rfl
         refine take_ (i := 10) (N := some 79) (v := ?_) (a' := ?_) #[true,true,true,true,true,true,true,false,false,true,true,false,false] rfl rfl (take_ofW HT_.out HW_.out q9_) (fun _ _ _ h=>h) (Or.inl ⟨by rfl,?_⟩) hHeld ?_ ?_
         rotate_left
         ·rintro w' ⟨s0,s1,s2,s3⟩
          go_simp
          with_reducible rfl
         rotate_left
         ·simp only [Act.put,List.setIfInBounds_toArray,List.set_cons_zero,List.set_cons_succ,i64_w,i32_w]
          rfl
         refine one_ (i := 7) (N := some 76) #[true,true,true,true,true,true,true,true,false,true,true,false,false] rfl rfl (one_of HT_.out q9_) (by decide) (fun K hK=>?_)
         refine value_ (w1 := ?_) (v := ?_) (by rfl) rfl ?_ ?_
         rotate_left 2
         ·go_simp
          constructor
          ·rfl
          ·rfl
         refine hK.out _ _ ⟨(blk_cell (blk_alloc BK224.out _) 0).trans rfl,(blk_cell (blk_alloc BK224.out _) 1).trans rfl,(blk_cell (blk_alloc BK224.out _) 2).trans rfl,(blk_cell (blk_alloc BK224.out _) 3).trans rfl⟩ (fun hHeld=>?_)
         clear hK K
         refine norm_ (a' := ?_) ?_ ?_
         rotate_left
         ·show Act.put _ (some 76) _ = _
          simp only [Act.put,List.setIfInBounds_toArray,List.set_cons_zero,List.set_cons_succ,i64_w,i32_w]
          rfl
         refine one_ (i := 8) (N := some 77) #[true,true,true,true,true,true,true,true,true,true,true,false,false] rfl rfl (one_of HT_.out q9_) (by decide) (fun K hK=>?_)
         refine Kd.R_append_step (Kd.int .u8) (w0 := w0) w0.heap.size (by rfl) (.tmp 69) (.tmp 76) 28 5 (.int .u8 0) 1 rfl Try.underlying28 info5 rfl (by decide) q75_ u9000_ l1 ((Go.bits .or .i64 (wrap64 ((wrap64 (a0_3 - 1)) * 4)) 3) % 256) [.int .u8 ((Go.bits .or .i64 (wrap64 ((wrap64 (a0_3 - 1)) * 4)) 3) % 256)] (fun k_=>(P1_ k_ ∨ w.heap.size ≤ k_)) (fun _=>False) rfl rfl ?aP (fun _ hk=>hk.elim) ?aF ?aO ?aB ?aS ?aL ?_
         (case aP=>exact rfl)
         (case aB=>exact q12_)
         (case aF=>exact (fun k_ hk=>(.inr (Nat.le_trans q27_ hk))))
         (case aO=>exact q34_)
         (case aS=>exact (below_size q12_))
         (case aL=>have := LMc32.out;omega)
         intro v238 w36 ho hb hg hat
         rw [← Ny237.out] at ho
         have n0_ := Aside0.mk (blk_grown (g := gb224) (o := .cells #[.bool true,.string a0_1,.int .i64 a0_2,.int .i64 a0_3] 35 (0,0)) q32_ hg (Kd.R_ne HO_1.out BK224.out (by decide)))
         have n1_ := Aside0.mk (hb)
         have n2_ := Aside0.mk (Kept.of_grown (S := (fun k_=>P1_ k_)) hg q14_ (fun k_ e_=>(HO_1.out.1 k_ e_)))
         have n3_ := Aside0.mk (ho)
         clear BK224
         clear HB
         clear HK
         clear HO_1
         have BK224 := n0_
         have HB := n1_
         have HK := n2_
         have HO239 := n3_
         clear n0_ n1_ n2_ n3_
         clear ho hb hg hat
         obtain ⟨Ao37,co37,eo37⟩ := Kd.R_slice HO239.out
         (first|subst eo37|(injection eo37 with f1_ f2_ f3_;have f4_ := f1_.symm;have f5_ := f3_.symm;clear f1_ f2_ f3_;subst f4_;subst f5_))
         refine hK.out _ _ ⟨(blk_cell BK224.out 0).trans rfl,(blk_cell BK224.out 1).trans rfl,(blk_cell BK224.out 2).trans rfl,(blk_cell BK224.out 3).trans rfl⟩ (fun hHeld=>?_)
         clear hK K
         refine norm_ (a' := ?_) ?_ ?_
         rotate_left
         ·show Act.put _ (some 77) _ = _
          simp only [Act.put,List.setIfInBounds_toArray,List.set_cons_zero,List.set_cons_succ,i64_w,i32_w]
          rfl
         refine one_ (i := 11) (N := some 80) #[true,true,true,true,true,true,true,true,true,true,true,true,false] rfl rfl (one_of HT_.out q9_) (by decide) (fun K hK=>?_)
         refine goes_ Try.func56 q9_ rfl #[.slice Ao37 y237.length co37,.int .i64 a0_2,.int .i64 4] (by rfl) rfl rfl q0_ ?_
         with_reducible refine (snappy_put.calls kj19 (fun k_=>some k_ = (.slice Ao37 y237.length co37 : Value).ownBlock) (.slice Ao37 y237.length co37) y237 a0_2 4 t240 w0 _ ?side1 ?side2 A33.out).mono ?_
         (case side1=>repeat (first|(with_reducible first|exact HB.out|apply below_alloc|apply pw_below_drewN|apply below_drew1|refine below_set ?_ GE224.out)|exact HB.out))
         (case side2=>exact Kd.R_tight rfl HO239.out)
         rintro e w38 ⟨v241,rfl,ho0,hb,hkp⟩
         refine ⟨_,rfl,?_⟩
         have n0_ := Aside0.mk (blk_kept q32_ hkp (fun hs_=>(fun e_=>(Kd.R_ne HO239.out BK224.out (by decide)) e_) hs_))
         have n1_ := Aside0.mk (Kd.R_mono (ok' := fun k_=>(P1_ k_ ∨ w.heap.size ≤ k_)) ho0 (fun k_ hk_=>Or.elim hk_ (fun hs_=>(HO239.out.1 k_ (hs_).symm)) (fun hn_=>(.inr (Nat.le_trans q27_ hn_)))))
         have n2_ := Aside0.mk (Kept.then_ (S := (fun k_=>P1_ k_)) q14_ hkp (fun k_ hs_=>(fun e_=>(HO239.out.1 k_ e_.symm)) hs_))
         have n3_ := Aside0.mk (hb)
         clear BK224
         clear HK
         clear HB
         clear HO239
         have BK224 := n0_
         have HO242 := n1_
         have HK := n2_
         have HB := n3_
         clear n0_ n1_ n2_ n3_
         (try clear hb)
         (try clear hkp)
         (try clear ho0)
         refine hK.out _ _ ⟨(blk_cell BK224.out 0).trans rfl,(blk_cell BK224.out 1).trans rfl,(blk_cell BK224.out 2).trans rfl,(blk_cell BK224.out 3).trans rfl⟩ (fun hHeld=>?_)
         clear hK K
         refine norm_ (a' := ?_) ?_ ?_
         rotate_left
         ·show Act.put _ (some 80) _ = _
          simp only [Act.put,List.setIfInBounds_toArray,List.set_cons_zero,List.set_cons_succ,i64_w,i32_w]
          rfl
         refine pure_ (i := 12) (N := some 4) (v := ?_) (a' := ?_) #[true,true,true,true,true,true,true,true,true,true,true,true,true] rfl rfl (any_of HT_.out q9_) (fun _ _ _ h=>h) (Or.inl ⟨by rfl,?_⟩) ?_ ?_
         rotate_left
         ·intro w'
          go_simp
          with_reducible rfl
         rotate_left
         ·simp only [Act.put,List.setIfInBounds_toArray,List.set_cons_zero,List.set_cons_succ,i64_w,i32_w]
          rfl
         refine done_ (done_of HT_.out q9_) ?_
         try go_wp2
         go_ret
         exact ⟨_,q1_,by (with_reducible repeat (first|apply Kd.R_alloc|apply Kd.R_drewN|apply Kd.R_drew));exact HO242.out,q12_,q14_⟩
        ·rw [if_neg c32] at H
         exact absurd H (by simp)
       ·replace c31 := Bool.eq_false_iff.mpr c31
        subst c31
        have H1 : (if (wrap64 ((a0_1.size : Int) - 1)) < 60 then (if l1.length < 140737488355328 then ((some (l1 ++ [(wrap64 ((wrap64 ((a0_1.size : Int) - 1)) * 4)) % 256] : List Int)).bind fun y243=>(if y243.length + a0_1.size < 140737488355328 then (some (y243 ++ bytesOf a0_1)) else (none))) else (none)) else (snappy_Part_write.l0 kj19 l1 (wrap64 ((a0_1.size : Int) - 1)) 1 false a0_1 a0_2 a0_3)) = some r := by rw [if_neg (show ¬ (false = true) by decide)] at H;exact H
        clear H
        have H := H1
        clear H1
        by_cases c39 : (wrap64 ((a0_1.size : Int) - 1)) < 60
        ·rw [if_pos c39] at H
         have c39b0 : decide ((wrap64 ((a0_1.size : Int) - 1)) < 60) = true := decide_eq_true c39
         clear c39
         by_cases c40 : l1.length < 140737488355328
         ·rw [if_pos c40] at H
          have LMc40 := Aside0.mk c40
          clear c40
          obtain ⟨y243,hy243⟩ : ∃ y_ : List Int,y_ = (l1 ++ [(wrap64 ((wrap64 ((a0_1.size : Int) - 1)) * 4)) % 256]) := ⟨_,rfl⟩
          replace H : (if y243.length + a0_1.size < 140737488355328 then (some (y243 ++ bytesOf a0_1)) else (none)) = some r := by first|(rw [hy243];with_reducible exact H)|(have H2_ := (Option.bind_some _ _).symm.trans H;rw [hy243];with_reducible exact H2_)|(have H2_ := (Option.bind_some _ _).symm.trans H;with_reducible exact H2_)|with_reducible exact H|(rw [hy243];exact H)|exact H
          have Ny243 := Aside0.mk hy243
          clear hy243
          by_cases c41 : y243.length + a0_1.size < 140737488355328
          ·rw [if_pos c41] at H
           have LMc41 := Aside0.mk c41
           clear c41
           obtain ⟨y246,hy246⟩ : ∃ y_ : List Int,y_ = (y243 ++ bytesOf a0_1) := ⟨_,rfl⟩
           replace H : (some y246) = some r := by first|(rw [hy246];with_reducible exact H)|(have H2_ := (Option.bind_some _ _).symm.trans H;rw [hy246];with_reducible exact H2_)|(have H2_ := (Option.bind_some _ _).symm.trans H;with_reducible exact H2_)|with_reducible exact H|(rw [hy246];exact H)|exact H
           have Ny246 := Aside0.mk hy246
           clear hy246
           obtain rfl := Option.some.inj H
           have hcz42_0 : wc.cell? ⟨gb224,0,none⟩ = some (.bool false) := (blk_cell BK224.out 0).trans rfl
           have hcz42_1 : wc.cell? ⟨gb224,1,none⟩ = some (.string a0_1) := (blk_cell BK224.out 1).trans rfl
           have hcz42_2 : wc.cell? ⟨gb224,2,none⟩ = some (.int .i64 a0_2) := (blk_cell BK224.out 2).trans rfl
           have hcz42_3 : wc.cell? ⟨gb224,3,none⟩ = some (.int .i64 a0_3) := (blk_cell BK224.out 3).trans rfl
           have hfz42_0 := blk_frozen BK224.out 0
           have hfz42_1 := blk_frozen BK224.out 1
           have hfz42_2 := blk_frozen BK224.out 2
           have hfz42_3 := blk_frozen BK224.out 3
           try go_wp2
           have n0_ := Aside0.mk (Kd.R_drew HO_1.out)
           have n1_ := Aside0.mk (blk_drew BK224.out)
           have n2_ := Aside0.mk (Kept.drew HK.out)
           have n3_ := Aside0.mk (below_drew1 HB.out)
           clear HO_1
           clear BK224
           clear HK
           clear HB
           have HO_1 := n0_
           have BK224 := n1_
           have HK := n2_
           have HB := n3_
           clear n0_ n1_ n2_ n3_
           refine start_ (n := 10) (S := fun w'=>w'.cell? ⟨gb224,0,none⟩ = some (.bool false) ∧ w'.cell? ⟨gb224,1,none⟩ = some (.string a0_1) ∧ w'.cell? ⟨gb224,2,none⟩ = some (.int .i64 a0_2) ∧ w'.cell? ⟨gb224,3,none⟩ = some (.int .i64 a0_3)) (ds := []) #[false,false,false,false,false,false,false,false,false,false] q9_ rfl rfl ⟨(blk_cell BK224.out 0).trans rfl,(blk_cell BK224.out 1).trans rfl,(blk_cell BK224.out 2).trans rfl,(blk_cell BK224.out 3).trans rfl⟩ (fun hHeld=>?_);refine with_tabW snappy_Part_write.tab9 snappy_Part_write.bits9 (fun HT_ HW_=>?_)
           generalize wc.drew = w43 at HO_1 BK224 HK HB hHeld ⊢
           refine pure_ (i := 0) (N := some 84) (v := ?_) (a' := ?_) #[true,false,false,false,false,false,false,false,false,false] rfl rfl (any_of HT_.out q9_) (fun _ _ _ h=>h) (Or.inl ⟨by rfl,?_⟩) ?_ ?_
           rotate_left
           ·intro w'
            go_simp
            with_reducible rfl
           rotate_left
           ·simp only [Act.put,List.setIfInBounds_toArray,List.set_cons_zero,List.set_cons_succ,i64_w,i32_w]
            rfl
           refine pure_ (i := 1) (N := some 85) (v := ?_) (a' := ?_) #[true,true,false,false,false,false,false,false,false,false] rfl rfl (any_of HT_.out q9_) (fun _ _ _ h=>h) (Or.inl ⟨by rfl,?_⟩) ?_ ?_
           rotate_left
           ·intro w'
            go_simp
            with_reducible rfl
           rotate_left
           ·simp only [Act.put,List.setIfInBounds_toArray,List.set_cons_zero,List.set_cons_succ,i64_w,i32_w]
            rfl
           refine pure_ (i := 2) (N := some 86) (v := ?_) (a' := ?_) #[true,true,true,false,false,false,false,false,false,false] rfl rfl (any_of HT_.out q9_) (fun _ _ _ h=>h) (Or.inl ⟨by rfl,?_⟩) ?_ ?_
           rotate_left
           ·intro w'
            go_simp
            with_reducible rfl
           rotate_left
           ·simp only [Act.put,List.setIfInBounds_toArray,List.set_cons_zero,List.set_cons_succ,i64_w,i32_w]
            rfl
           refine pure_ (i := 3) (N := some 87) (v := ?_) (a' := ?_) #[true,true,true,true,false,false,false,false,false,false] rfl rfl (any_of HT_.out q9_) (fun _ _ _ h=>h) (Or.inl ⟨by rfl,?_⟩) ?_ ?_
           rotate_left
           ·intro w'
            go_simp
            with_reducible rfl
           rotate_left
           ·simp only [Act.put,List.setIfInBounds_toArray,List.set_cons_zero,List.set_cons_succ,i64_w,i32_w]
            rfl
           refine pure_ (i := 6) (N := some 90) (v := ?_) (a' := ?_) #[true,true,true,true,false,false,true,false,false,false] rfl rfl (any_of HT_.out q9_) (fun _ _ _ h=>h) (Or.inl ⟨by rfl,?_⟩) ?_ ?_
           rotate_left
           ·intro w'
            go_simp
            with_reducible rfl
           rotate_left
           ·simp only [Act.put,List.setIfInBounds_toArray,List.set_cons_zero,List.set_cons_succ,i64_w,i32_w]
            rfl
           refine take_ (i := 7) (N := some 91) (v := ?_) (a' := ?_) #[true,true,true,true,false,false,true,true,false,false] rfl rfl (take_ofW HT_.out HW_.out q9_) (fun _ _ _ h=>h) (Or.inl ⟨by rfl,?_⟩) hHeld ?_ ?_
           rotate_left
           ·rintro w' ⟨s0,s1,s2,s3⟩
            go_simp
            with_reducible rfl
           rotate_left
           ·simp only [Act.put,List.setIfInBounds_toArray,List.set_cons_zero,List.set_cons_succ,i64_w,i32_w]
            rfl
           refine one_ (i := 4) (N := some 88) #[true,true,true,true,true,false,true,true,false,false] rfl rfl (one_of HT_.out q9_) (by decide) (fun K hK=>?_)
           refine value_ (w1 := ?_) (v := ?_) (by rfl) rfl ?_ ?_
           rotate_left 2
           ·go_simp
            constructor
            ·rfl
            ·rfl
           refine hK.out _ _ ⟨(blk_cell (blk_alloc BK224.out _) 0).trans rfl,(blk_cell (blk_alloc BK224.out _) 1).trans rfl,(blk_cell (blk_alloc BK224.out _) 2).trans rfl,(blk_cell (blk_alloc BK224.out _) 3).trans rfl⟩ (fun hHeld=>?_)
           clear hK K
           refine norm_ (a' := ?_) ?_ ?_
           rotate_left
           ·show Act.put _ (some 88) _ = _
            simp only [Act.put,List.setIfInBounds_toArray,List.set_cons_zero,List.set_cons_succ,i64_w,i32_w]
            rfl
           refine one_ (i := 5) (N := some 89) #[true,true,true,true,true,true,true,true,false,false] rfl rfl (one_of HT_.out q9_) (by decide) (fun K hK=>?_)
           refine Kd.R_append_step (Kd.int .u8) (w0 := w0) w0.heap.size (by rfl) (.tmp 84) (.tmp 88) 28 5 (.int .u8 0) 1 rfl Try.underlying28 info5 rfl (by decide) q75_ u9000_ l1 ((wrap64 ((wrap64 ((a0_1.size : Int) - 1)) * 4)) % 256) [.int .u8 ((wrap64 ((wrap64 ((a0_1.size : Int) - 1)) * 4)) % 256)] (fun k_=>(P1_ k_ ∨ w.heap.size ≤ k_)) (fun _=>False) rfl rfl ?aP (fun _ hk=>hk.elim) ?aF ?aO ?aB ?aS ?aL ?_
           (case aP=>exact rfl)
           (case aB=>exact q12_)
           (case aF=>exact (fun k_ hk=>(.inr (Nat.le_trans q27_ hk))))
           (case aO=>exact q34_)
           (case aS=>exact (below_size q12_))
           (case aL=>have := LMc40.out;omega)
           intro v244 w44 ho hb hg hat
           rw [← Ny243.out] at ho
           have n0_ := Aside0.mk (blk_grown (g := gb224) (o := .cells #[.bool false,.string a0_1,.int .i64 a0_2,.int .i64 a0_3] 35 (0,0)) q32_ hg (Kd.R_ne HO_1.out BK224.out (by decide)))
           have n1_ := Aside0.mk (hb)
           have n2_ := Aside0.mk (Kept.of_grown (S := (fun k_=>P1_ k_)) hg q14_ (fun k_ e_=>(HO_1.out.1 k_ e_)))
           have n3_ := Aside0.mk (ho)
           clear BK224
           clear HB
           clear HK
           clear HO_1
           have BK224 := n0_
           have HB := n1_
           have HK := n2_
           have HO245 := n3_
           clear n0_ n1_ n2_ n3_
           clear ho hb hg hat
           refine hK.out _ _ ⟨(blk_cell BK224.out 0).trans rfl,(blk_cell BK224.out 1).trans rfl,(blk_cell BK224.out 2).trans rfl,(blk_cell BK224.out 3).trans rfl⟩ (fun hHeld=>?_)
           clear hK K
           refine norm_ (a' := ?_) ?_ ?_
           rotate_left
           ·show Act.put _ (some 89) _ = _
            simp only [Act.put,List.setIfInBounds_toArray,List.set_cons_zero,List.set_cons_succ,i64_w,i32_w]
            rfl
           refine one_ (i := 8) (N := some 92) #[true,true,true,true,true,true,true,true,true,false] rfl rfl (one_of HT_.out q9_) (by decide) (fun K hK=>?_)
           refine my_append_str_step (w0 := w0) w0.heap.size (by rfl) (.tmp 89) _ 28 9 5 rfl Try.underlying28 Try.underlying9 info5 v244 y243 a0_1 (fun k_=>(P1_ k_ ∨ w.heap.size ≤ k_)) rfl rfl ?aO ?aF ?aB ?aS ?aL ?_
           (case aB=>exact q12_)
           (case aF=>exact (fun k_ hk=>(.inr (Nat.le_trans q27_ hk))))
           (case aO=>exact (by (with_reducible repeat (first|apply Kd.R_alloc|apply Kd.R_drewN|apply Kd.R_drew));exact HO245.out))
           (case aS=>exact (below_size q12_))
           (case aL=>have := LMc41.out;omega)
           intro v247 w45 ho hb hg hat
           rw [← Ny246.out] at ho
           have n0_ := Aside0.mk (blk_grown (g := gb224) (o := .cells #[.bool false,.string a0_1,.int .i64 a0_2,.int .i64 a0_3] 35 (0,0)) q32_ hg (Kd.R_ne HO245.out BK224.out (by decide)))
           have n1_ := Aside0.mk (hb)
           have n2_ := Aside0.mk (Kept.of_grown (S := (fun k_=>P1_ k_)) hg q14_ (fun k_ e_=>(HO245.out.1 k_ e_)))
           have n3_ := Aside0.mk (ho)
           clear BK224
           clear HB
           clear HK
           clear HO245
           have BK224 := n0_
           have HB := n1_
           have HK := n2_
           have HO248 := n3_
           clear n0_ n1_ n2_ n3_
           clear ho hb hg hat
           refine hK.out _ _ ⟨(blk_cell BK224.out 0).trans rfl,(blk_cell BK224.out 1).trans rfl,(blk_cell BK224.out 2).trans rfl,(blk_cell BK224.out 3).trans rfl⟩ (fun hHeld=>?_)
           clear hK K
           refine norm_ (a' := ?_) ?_ ?_
           rotate_left
           ·show Act.put _ (some 92) _ = _
            simp only [Act.put,List.setIfInBounds_toArray,List.set_cons_zero,List.set_cons_succ,i64_w,i32_w]
            rfl
           refine pure_ (i := 9) (N := some 4) (v := ?_) (a' := ?_) #[true,true,true,true,true,true,true,true,true,true] rfl rfl (any_of HT_.out q9_) (fun _ _ _ h=>h) (Or.inl ⟨by rfl,?_⟩) ?_ ?_
           rotate_left
           ·intro w'
            go_simp
            with_reducible rfl
           rotate_left
           ·simp only [Act.put,List.setIfInBounds_toArray,List.set_cons_zero,List.set_cons_succ,i64_w,i32_w]
            rfl
           refine done_ (done_of HT_.out q9_) ?_
           try go_wp2
           go_ret
           exact ⟨_,q1_,by (with_reducible repeat (first|apply Kd.R_alloc|apply Kd.R_drewN|apply Kd.R_drew));exact HO248.out,q12_,q14_⟩
          ·rw [if_neg c41] at H
           exact absurd H (by simp)
         ·rw [if_neg c40] at H
          exact absurd H (by simp)
        ·rw [if_neg c39] at H
         have c39b0 : decide ((wrap64 ((a0_1.size : Int) - 1)) < 60) = false := decide_eq_false c39
         clear c39
         have H' := Aside0.mk H
         clear H
         have hcz46_0 : wc.cell? ⟨gb224,0,none⟩ = some (.bool false) := (blk_cell BK224.out 0).trans rfl
         have hcz46_1 : wc.cell? ⟨gb224,1,none⟩ = some (.string a0_1) := (blk_cell BK224.out 1).trans rfl
         have hcz46_2 : wc.cell? ⟨gb224,2,none⟩ = some (.int .i64 a0_2) := (blk_cell BK224.out 2).trans rfl
         have hcz46_3 : wc.cell? ⟨gb224,3,none⟩ = some (.int .i64 a0_3) := (blk_cell BK224.out 3).trans rfl
         have hfz46_0 := blk_frozen BK224.out 0
         have hfz46_1 := blk_frozen BK224.out 1
         have hfz46_2 := blk_frozen BK224.out 2
         have hfz46_3 := blk_frozen BK224.out 3
         go_wp2
         go_loopg [6] kj19 (fun kq v6 w'=>∃ (x6_3 : Int),v6 = .int .i64 x6_3 ∧ Aside0 (snappy_Part_write.l0 kq l1 (wrap64 ((a0_1.size : Int) - 1)) x6_3 false a0_1 a0_2 a0_3 = some r) ∧ Aside0 (kq ≤ kj19) ∧ Aside0 (Kd.R (Kd.int .u8) 5 w' w0.heap.size (fun k_=>(P1_ k_ ∨ w.heap.size ≤ k_)) u9000_ l1) ∧ Aside0 (w'.heap[gb224]? = some (.cells #[.bool false,.string a0_1,.int .i64 a0_2,.int .i64 a0_3] 35 (0,0))) ∧ Aside0 (Kept w w' (fun k_=>P1_ k_)) ∧ Aside0 (Below w0.heap.size w0 w'))
         case atStart=>exact ⟨(1),q4_,H',⟨Nat.le_refl _⟩,⟨q34_⟩,⟨q32_⟩,⟨q14_⟩,⟨q12_⟩⟩
         case round =>
          clear H'
          try clear c2
          try clear p2
          try clear c3
          try clear c4
          try clear c5
          try clear p6
          try clear c24
          try clear c25
          try clear c31
          try clear c32
          try clear c39
          try clear c39b0
          try clear c40
          try clear c41
          try clear hcz34_0
          try clear hcz34_1
          try clear hcz34_2
          try clear hcz34_3
          try clear hcz42_0
          try clear hcz42_1
          try clear hcz42_2
          try clear hcz42_3
          try clear hcz46_0
          try clear hcz46_1
          try clear hcz46_2
          try clear hcz46_3
          try clear hfz34_0
          try clear hfz34_1
          try clear hfz34_2
          try clear hfz34_3
          try clear hfz42_0
          try clear hfz42_1
          try clear hfz42_2
          try clear hfz42_3
          try clear hfz46_0
          try clear hfz46_1
          try clear hfz46_2
          try clear hfz46_3
          obtain ⟨x6_3,rfl,HA,HK3,HO_1,BK224,HK,HB⟩ := hrel
          cases gk with
          | zero=>exact absurd HA.out (by simp [snappy_Part_write.l0])
          | succ k3 =>
           have H := HA.out
           clear HA
           simp only [snappy_Part_write.l0] at H
           obtain ⟨ji47,hji47⟩ : ∃ j_ : Int,(wrap64 (8 * x6_3)) = j_ := ⟨_,rfl⟩
           replace H : (if 0 ≤ (ji47) then (if (shr .i64 (wrap64 ((a0_1.size : Int) - 1)) (ji47)) > 0 then (snappy_Part_write.l0 k3 l1 (wrap64 ((a0_1.size : Int) - 1)) (wrap64 (x6_3 + 1)) false a0_1 a0_2 a0_3) else (if l1.length < 140737488355328 then ((snappy_put.f k3 (l1 ++ [(Go.bits .or .i64 (wrap64 ((wrap64 ((wrap64 (60 + x6_3)) - 1)) * 4)) 0) % 256]) (wrap64 ((a0_1.size : Int) - 1)) x6_3).bind fun t252=>(if t252.length + a0_1.size < 140737488355328 then (some (t252 ++ bytesOf a0_1)) else (none))) else (none))) else (none)) = some r := by first|(rw [hji47] at H;exact H)|(simp only [hji47] at H ⊢;exact H)
           have hji47w : (IntKind.i64.wrap (8 * x6_3)) = ji47 := (i64_w _).trans hji47
           by_cases c48 : 0 ≤ (ji47)
           ·rw [if_pos c48] at H
            have c48b0 := eq_true c48
            have c48b1 : decide (0 ≤ (ji47)) = true := decide_eq_true c48
            clear c48
            obtain ⟨ji49,hji49⟩ : ∃ j_ : Int,(shr .i64 (wrap64 ((a0_1.size : Int) - 1)) (ji47)) = j_ := ⟨_,rfl⟩
            replace H : (if (ji49) > 0 then (snappy_Part_write.l0 k3 l1 (wrap64 ((a0_1.size : Int) - 1)) (wrap64 (x6_3 + 1)) false a0_1 a0_2 a0_3) else (if l1.length < 140737488355328 then ((snappy_put.f k3 (l1 ++ [(Go.bits .or .i64 (wrap64 ((wrap64 ((wrap64 (60 + x6_3)) - 1)) * 4)) 0) % 256]) (wrap64 ((a0_1.size : Int) - 1)) x6_3).bind fun t252=>(if t252.length + a0_1.size < 140737488355328 then (some (t252 ++ bytesOf a0_1)) else (none))) else (none))) = some r := by first|(rw [hji49] at H;exact H)|(simp only [hji49] at H ⊢;exact H)
            have hji49_ : ((wrap64 ((a0_1.size : Int) - 1)) / 2 ^ min (ji47).toNat 64) = ji49 := hji49
            have hji49z : (ji47) ≤ 64 → ((wrap64 ((a0_1.size : Int) - 1)) / 2 ^ (ji47).toNat) = ji49 := shr_small hji49
            by_cases c50 : (ji49) > 0
            ·rw [if_pos c50] at H
             have c50b0 : decide (0 < (ji49)) = true := decide_eq_true c50
             clear c50
             have H' := Aside0.mk H
             clear H
             go_wp2
             go_roundg k3
             case measure=>have := HJ2.out;have := HJ19.out;have := HK3.out;omega
             case rel=>exact ⟨(wrap64 (x6_3 + 1)),q4_,H',⟨by have := HJ2.out;have := HJ19.out;have := HK3.out;omega⟩,⟨q34_⟩,⟨q32_⟩,⟨q14_⟩,⟨q12_⟩⟩
            ·rw [if_neg c50] at H
             have c50b0 : decide (0 < (ji49)) = false := decide_eq_false c50
             clear c50
             by_cases c51 : l1.length < 140737488355328
             ·rw [if_pos c51] at H
              have LMc51 := Aside0.mk c51
              clear c51
              obtain ⟨y249,hy249⟩ : ∃ y_ : List Int,y_ = (l1 ++ [(Go.bits .or .i64 (wrap64 ((wrap64 ((wrap64 (60 + x6_3)) - 1)) * 4)) 0) % 256]) := ⟨_,rfl⟩
              replace H : ((snappy_put.f k3 y249 (wrap64 ((a0_1.size : Int) - 1)) x6_3).bind fun t252=>(if t252.length + a0_1.size < 140737488355328 then (some (t252 ++ bytesOf a0_1)) else (none))) = some r := by first|(rw [hy249];with_reducible exact H)|(have H2_ := (Option.bind_some _ _).symm.trans H;rw [hy249];with_reducible exact H2_)|(have H2_ := (Option.bind_some _ _).symm.trans H;with_reducible exact H2_)|with_reducible exact H|(rw [hy249];exact H)|exact H
              have Ny249 := Aside0.mk hy249
              clear hy249
              replace H := Option.bind_eq_some_iff.mp H
              obtain ⟨t252,A520,H⟩ := H
              replace H : (if t252.length + a0_1.size < 140737488355328 then (some (t252 ++ bytesOf a0_1)) else (none)) = some r := H
              have A52 := Aside0.mk A520
              clear A520
              by_cases c53 : t252.length + a0_1.size < 140737488355328
              ·rw [if_pos c53] at H
               have LMc53 := Aside0.mk c53
               clear c53
               obtain ⟨y255,hy255⟩ : ∃ y_ : List Int,y_ = (t252 ++ bytesOf a0_1) := ⟨_,rfl⟩
               replace H : (some y255) = some r := by first|(rw [hy255];with_reducible exact H)|(have H2_ := (Option.bind_some _ _).symm.trans H;rw [hy255];with_reducible exact H2_)|(have H2_ := (Option.bind_some _ _).symm.trans H;with_reducible exact H2_)|with_reducible exact H|(rw [hy255];exact H)|exact H
               have Ny255 := Aside0.mk hy255
               clear hy255
               obtain rfl := Option.some.inj H
               try go_wp2
               have n0_ := Aside0.mk (Kd.R_drew HO_1.out)
               have n1_ := Aside0.mk (blk_drew BK224.out)
               have n2_ := Aside0.mk (Kept.drew HK.out)
               have n3_ := Aside0.mk (below_drew1 HB.out)
               clear HO_1
               clear BK224
               clear HK
               clear HB
               have HO_1 := n0_
               have BK224 := n1_
               have HK := n2_
               have HB := n3_
               clear n0_ n1_ n2_ n3_
               refine start_ (n := 16) (S := fun w'=>w'.cell? ⟨gb224,0,none⟩ = some (.bool false) ∧ w'.cell? ⟨gb224,1,none⟩ = some (.string a0_1) ∧ w'.cell? ⟨gb224,2,none⟩ = some (.int .i64 a0_2) ∧ w'.cell? ⟨gb224,3,none⟩ = some (.int .i64 a0_3)) (ds := []) #[false,false,false,false,false,false,false,false,false,false,false,false,false,false,false,false] q9_ rfl rfl ⟨(blk_cell BK224.out 0).trans rfl,(blk_cell BK224.out 1).trans rfl,(blk_cell BK224.out 2).trans rfl,(blk_cell BK224.out 3).trans rfl⟩ (fun hHeld=>?_);refine with_tabW snappy_Part_write.tab13 snappy_Part_write.bits13 (fun HT_ HW_=>?_)
               generalize wr.drew = w54 at HO_1 BK224 HK HB hHeld ⊢
               refine pure_ (i := 0) (N := some 100) (v := ?_) (a' := ?_) #[true,false,false,false,false,false,false,false,false,false,false,false,false,false,false,false] rfl rfl (any_of HT_.out q9_) (fun _ _ _ h=>h) (Or.inl ⟨by rfl,?_⟩) ?_ ?_
               rotate_left
               ·intro w'
                go_simp
                with_reducible rfl
               rotate_left
               ·simp only [Act.put,List.setIfInBounds_toArray,List.set_cons_zero,List.set_cons_succ,i64_w,i32_w]
                rfl
               refine pure_ (i := 1) (N := some 101) (v := ?_) (a' := ?_) #[true,true,false,false,false,false,false,false,false,false,false,false,false,false,false,false] rfl rfl (any_of HT_.out q9_) (fun _ _ _ h=>h) (Or.inl ⟨by rfl,?_⟩) ?_ ?_
               rotate_left
               ·intro w'
                go_simp
                with_reducible rfl
               rotate_left
               ·simp only [Act.put,List.setIfInBounds_toArray,List.set_cons_zero,List.set_cons_succ,i64_w,i32_w]
                rfl
               refine pure_ (i := 2) (N := some 102) (v := ?_) (a' := ?_) #[true,true,true,false,false,false,false,false,false,false,false,false,false,false,false,false] rfl rfl (any_of HT_.out q9_) (fun _ _ _ h=>h) (Or.inl ⟨by rfl,?_⟩) ?_ ?_
               rotate_left
               ·intro w'
                go_simp
                with_reducible rfl
               rotate_left
               ·simp only [Act.put,List.setIfInBounds_toArray,List.set_cons_zero,List.set_cons_succ,i64_w,i32_w]
                rfl
               refine pure_ (i := 3) (N := some 103) (v := ?_) (a' := ?_) #[true,true,true,true,false,false,false,false,false,false,false,false,false,false,false,false] rfl rfl (any_of HT_.out q9_) (fun _ _ _ h=>h) (Or.inl ⟨by rfl,?_⟩) ?_ ?_
               rotate_left
               ·intro w'
                go_simp
                with_reducible rfl
               rotate_left
               ·simp only [Act.put,List.setIfInBounds_toArray,List.set_cons_zero,List.set_cons_succ,i64_w,i32_w]
                rfl
               refine pure_ (i := 4) (N := some 104) (v := ?_) (a' := ?_) #[true,true,true,true,true,false,false,false,false,false,false,false,false,false,false,false] rfl rfl (any_of HT_.out q9_) (fun _ _ _ h=>h) (Or.inl ⟨by rfl,?_⟩) ?_ ?_
               rotate_left
               ·intro w'
                go_simp
                with_reducible rfl
               rotate_left
               ·simp only [Act.put,List.setIfInBounds_toArray,List.set_cons_zero,List.set_cons_succ,i64_w,i32_w]
                rfl
               refine pure_ (i := 5) (N := some 105) (v := ?_) (a' := ?_) #[true,true,true,true,true,true,false,false,false,false,false,false,false,false,false,false] rfl rfl (any_of HT_.out q9_) (fun _ _ _ h=>h) (Or.inl ⟨by rfl,?_⟩) ?_ ?_
               rotate_left
               ·intro w'
                go_simp
                with_reducible rfl
               rotate_left
               ·simp only [Act.put,List.setIfInBounds_toArray,List.set_cons_zero,List.set_cons_succ,i64_w,i32_w]
                rfl
               refine pure_ (i := 6) (N := some 106) (v := ?_) (a' := ?_) #[true,true,true,true,true,true,true,false,false,false,false,false,false,false,false,false] rfl rfl (any_of HT_.out q9_) (fun _ _ _ h=>h) (Or.inl ⟨by rfl,?_⟩) ?_ ?_
               rotate_left
               ·intro w'
                go_simp
                with_reducible rfl
               rotate_left
               ·simp only [Act.put,List.setIfInBounds_toArray,List.set_cons_zero,List.set_cons_succ,i64_w,i32_w]
                rfl
               refine pure_ (i := 9) (N := some 109) (v := ?_) (a' := ?_) #[true,true,true,true,true,true,true,false,false,true,false,false,false,false,false,false] rfl rfl (any_of HT_.out q9_) (fun _ _ _ h=>h) (Or.inl ⟨by rfl,?_⟩) ?_ ?_
               rotate_left
               ·intro w'
                go_simp
                with_reducible rfl
               rotate_left
               ·simp only [Act.put,List.setIfInBounds_toArray,List.set_cons_zero,List.set_cons_succ,i64_w,i32_w]
                rfl
               refine pure_ (i := 10) (N := some 110) (v := ?_) (a' := ?_) #[true,true,true,true,true,true,true,false,false,true,true,false,false,false,false,false] rfl rfl (any_of HT_.out q9_) (fun _ _ _ h=>h) (Or.inl ⟨by rfl,?_⟩) ?_ ?_
               rotate_left
               ·intro w'
                go_simp
                with_reducible rfl
               rotate_left
               ·simp only [Act.put,List.setIfInBounds_toArray,List.set_cons_zero,List.set_cons_succ,i64_w,i32_w]
                rfl
               refine pure_ (i := 12) (N := some 112) (v := ?_) (a' := ?_) #[true,true,true,true,true,true,true,false,false,true,true,false,true,false,false,false] rfl rfl (any_of HT_.out q9_) (fun _ _ _ h=>h) (Or.inl ⟨by rfl,?_⟩) ?_ ?_
               rotate_left
               ·intro w'
                go_simp
                with_reducible rfl
               rotate_left
               ·simp only [Act.put,List.setIfInBounds_toArray,List.set_cons_zero,List.set_cons_succ,i64_w,i32_w]
                rfl
               refine take_ (i := 13) (N := some 113) (v := ?_) (a' := ?_) #[true,true,true,true,true,true,true,false,false,true,true,false,true,true,false,false] rfl rfl (take_ofW HT_.out HW_.out q9_) (fun _ _ _ h=>h) (Or.inl ⟨by rfl,?_⟩) hHeld ?_ ?_
               rotate_left
               ·rintro w' ⟨s0,s1,s2,s3⟩
                go_simp
                with_reducible rfl
               rotate_left
               ·simp only [Act.put,List.setIfInBounds_toArray,List.set_cons_zero,List.set_cons_succ,i64_w,i32_w]
                rfl
               refine one_ (i := 7) (N := some 107) #[true,true,true,true,true,true,true,true,false,true,true,false,true,true,false,false] rfl rfl (one_of HT_.out q9_) (by decide) (fun K hK=>?_)
               refine value_ (w1 := ?_) (v := ?_) (by rfl) rfl ?_ ?_
               rotate_left 2
               ·go_simp
                constructor
                ·rfl
                ·rfl
               refine hK.out _ _ ⟨(blk_cell (blk_alloc BK224.out _) 0).trans rfl,(blk_cell (blk_alloc BK224.out _) 1).trans rfl,(blk_cell (blk_alloc BK224.out _) 2).trans rfl,(blk_cell (blk_alloc BK224.out _) 3).trans rfl⟩ (fun hHeld=>?_)
               clear hK K
               refine norm_ (a' := ?_) ?_ ?_
               rotate_left
               ·show Act.put _ (some 107) _ = _
                simp only [Act.put,List.setIfInBounds_toArray,List.set_cons_zero,List.set_cons_succ,i64_w,i32_w]
                rfl
               refine one_ (i := 8) (N := some 108) #[true,true,true,true,true,true,true,true,true,true,true,false,true,true,false,false] rfl rfl (one_of HT_.out q9_) (by decide) (fun K hK=>?_)
               refine Kd.R_append_step (Kd.int .u8) (w0 := w0) w0.heap.size (by rfl) (.tmp 100) (.tmp 107) 28 5 (.int .u8 0) 1 rfl Try.underlying28 info5 rfl (by decide) q75_ u9000_ l1 ((Go.bits .or .i64 (wrap64 ((wrap64 ((wrap64 (60 + x6_3)) - 1)) * 4)) 0) % 256) [.int .u8 ((Go.bits .or .i64 (wrap64 ((wrap64 ((wrap64 (60 + x6_3)) - 1)) * 4)) 0) % 256)] (fun k_=>(P1_ k_ ∨ w.heap.size ≤ k_)) (fun _=>False) rfl rfl ?aP (fun _ hk=>hk.elim) ?aF ?aO ?aB ?aS ?aL ?_
               (case aP=>exact rfl)
               (case aB=>exact q12_)
               (case aF=>exact (fun k_ hk=>(.inr (Nat.le_trans q27_ hk))))
               (case aO=>exact q34_)
               (case aS=>exact (below_size q12_))
               (case aL=>have := LMc51.out;omega)
               intro v250 w55 ho hb hg hat
               rw [← Ny249.out] at ho
               have n0_ := Aside0.mk (blk_grown (g := gb224) (o := .cells #[.bool false,.string a0_1,.int .i64 a0_2,.int .i64 a0_3] 35 (0,0)) q32_ hg (Kd.R_ne HO_1.out BK224.out (by decide)))
               have n1_ := Aside0.mk (hb)
               have n2_ := Aside0.mk (Kept.of_grown (S := (fun k_=>P1_ k_)) hg q14_ (fun k_ e_=>(HO_1.out.1 k_ e_)))
               have n3_ := Aside0.mk (ho)
               clear BK224
               clear HB
               clear HK
               clear HO_1
               have BK224 := n0_
               have HB := n1_
               have HK := n2_
               have HO251 := n3_
               clear n0_ n1_ n2_ n3_
               clear ho hb hg hat
               obtain ⟨Ao56,co56,eo56⟩ := Kd.R_slice HO251.out
               (first|subst eo56|(injection eo56 with f1_ f2_ f3_;have f4_ := f1_.symm;have f5_ := f3_.symm;clear f1_ f2_ f3_;subst f4_;subst f5_))
               refine hK.out _ _ ⟨(blk_cell BK224.out 0).trans rfl,(blk_cell BK224.out 1).trans rfl,(blk_cell BK224.out 2).trans rfl,(blk_cell BK224.out 3).trans rfl⟩ (fun hHeld=>?_)
               clear hK K
               refine norm_ (a' := ?_) ?_ ?_
               rotate_left
               ·show Act.put _ (some 108) _ = _
                simp only [Act.put,List.setIfInBounds_toArray,List.set_cons_zero,List.set_cons_succ,i64_w,i32_w]
                rfl
               refine one_ (i := 11) (N := some 111) #[true,true,true,true,true,true,true,true,true,true,true,true,true,true,false,false] rfl rfl (one_of HT_.out q9_) (by decide) (fun K hK=>?_)
               refine goes_ Try.func56 q9_ rfl #[.slice Ao56 y249.length co56,.int .i64 (wrap64 ((a0_1.size : Int) - 1)),.int .i64 x6_3] (by rfl) rfl rfl q0_ ?_
               with_reducible refine (snappy_put.calls k3 (fun k_=>some k_ = (.slice Ao56 y249.length co56 : Value).ownBlock) (.slice Ao56 y249.length co56) y249 (wrap64 ((a0_1.size : Int) - 1)) x6_3 t252 w0 _ ?side1 ?side2 A52.out).mono ?_
               (case side1=>repeat (first|(with_reducible first|exact HB.out|apply below_alloc|apply pw_below_drewN|apply below_drew1|refine below_set ?_ GE224.out)|exact HB.out))
               (case side2=>exact Kd.R_tight rfl HO251.out)
               rintro e w57 ⟨v253,rfl,ho0,hb,hkp⟩
               refine ⟨_,rfl,?_⟩
               have n0_ := Aside0.mk (blk_kept q32_ hkp (fun hs_=>(fun e_=>(Kd.R_ne HO251.out BK224.out (by decide)) e_) hs_))
               have n1_ := Aside0.mk (Kd.R_mono (ok' := fun k_=>(P1_ k_ ∨ w.heap.size ≤ k_)) ho0 (fun k_ hk_=>Or.elim hk_ (fun hs_=>(HO251.out.1 k_ (hs_).symm)) (fun hn_=>(.inr (Nat.le_trans q27_ hn_)))))
               have n2_ := Aside0.mk (Kept.then_ (S := (fun k_=>P1_ k_)) q14_ hkp (fun k_ hs_=>(fun e_=>(HO251.out.1 k_ e_.symm)) hs_))
               have n3_ := Aside0.mk (hb)
               clear BK224
               clear HK
               clear HB
               clear HO251
               have BK224 := n0_
               have HO254 := n1_
               have HK := n2_
               have HB := n3_
               clear n0_ n1_ n2_ n3_
               (try clear hb)
               (try clear hkp)
               (try clear ho0)
               refine hK.out _ _ ⟨(blk_cell BK224.out 0).trans rfl,(blk_cell BK224.out 1).trans rfl,(blk_cell BK224.out 2).trans rfl,(blk_cell BK224.out 3).trans rfl⟩ (fun hHeld=>?_)
               clear hK K
               refine norm_ (a' := ?_) ?_ ?_
               rotate_left
               ·show Act.put _ (some 111) _ = _
                simp only [Act.put,List.setIfInBounds_toArray,List.set_cons_zero,List.set_cons_succ,i64_w,i32_w]
                rfl
               refine one_ (i := 14) (N := some 114) #[true,true,true,true,true,true,true,true,true,true,true,true,true,true,true,false] rfl rfl (one_of HT_.out q9_) (by decide) (fun K hK=>?_)
               refine my_append_str_step (w0 := w0) w0.heap.size (by rfl) (.tmp 111) _ 28 9 5 rfl Try.underlying28 Try.underlying9 info5 v253 t252 a0_1 (fun k_=>(P1_ k_ ∨ w.heap.size ≤ k_)) rfl rfl ?aO ?aF ?aB ?aS ?aL ?_
               (case aB=>exact q12_)
               (case aF=>exact (fun k_ hk=>(.inr (Nat.le_trans q27_ hk))))
               (case aO=>exact (by (with_reducible repeat (first|apply Kd.R_alloc|apply Kd.R_drewN|apply Kd.R_drew));exact HO254.out))
               (case aS=>exact (below_size q12_))
               (case aL=>have := LMc53.out;omega)
               intro v256 w58 ho hb hg hat
               rw [← Ny255.out] at ho
               have n0_ := Aside0.mk (blk_grown (g := gb224) (o := .cells #[.bool false,.string a0_1,.int .i64 a0_2,.int .i64 a0_3] 35 (0,0)) q32_ hg (Kd.R_ne HO254.out BK224.out (by decide)))
               have n1_ := Aside0.mk (hb)
               have n2_ := Aside0.mk (Kept.of_grown (S := (fun k_=>P1_ k_)) hg q14_ (fun k_ e_=>(HO254.out.1 k_ e_)))
               have n3_ := Aside0.mk (ho)
               clear BK224
               clear HB
               clear HK
               clear HO254
               have BK224 := n0_
               have HB := n1_
               have HK := n2_
               have HO257 := n3_
               clear n0_ n1_ n2_ n3_
               clear ho hb hg hat
               refine hK.out _ _ ⟨(blk_cell BK224.out 0).trans rfl,(blk_cell BK224.out 1).trans rfl,(blk_cell BK224.out 2).trans rfl,(blk_cell BK224.out 3).trans rfl⟩ (fun hHeld=>?_)
               clear hK K
               refine norm_ (a' := ?_) ?_ ?_
               rotate_left
               ·show Act.put _ (some 114) _ = _
                simp only [Act.put,List.setIfInBounds_toArray,List.set_cons_zero,List.set_cons_succ,i64_w,i32_w]
                rfl
               refine pure_ (i := 15) (N := some 4) (v := ?_) (a' := ?_) #[true,true,true,true,true,true,true,true,true,true,true,true,true,true,true,true] rfl rfl (any_of HT_.out q9_) (fun _ _ _ h=>h) (Or.inl ⟨by rfl,?_⟩) ?_ ?_
               rotate_left
               ·intro w'
                go_simp
                with_reducible rfl
               rotate_left
               ·simp only [Act.put,List.setIfInBounds_toArray,List.set_cons_zero,List.set_cons_succ,i64_w,i32_w]
                rfl
               refine done_ (done_of HT_.out q9_) ?_
               try go_wp2
               go_ret
               exact ⟨_,by first|rfl|(simp [errW_none,errW_some] <;> rfl)|(simp only [← hji47,← hji49];first|rfl|(simp [errW_none,errW_some] <;> rfl))|(simp [*,errW_none,errW_some] <;> rfl),by (with_reducible repeat (first|apply Kd.R_alloc|apply Kd.R_drewN|apply Kd.R_drew));exact HO257.out,q12_,q14_⟩
              ·rw [if_neg c53] at H
               exact absurd H (by simp)
             ·rw [if_neg c51] at H
              exact absurd H (by simp)
           ·rw [if_neg c48] at H
            exact absurd H (by simp)

end Go.Proofs.Ythcjcmgdblhhfaa.PV

/- The machine side of these statements: what each Go function computes as a plain function, and that its call computes just that. Written by a program of mine (wip/drive.py). No conditions. -/
import Derived.Test.YthcjcmgdblhhfaaPVx0
import Derived.Test.YthcjcmgdblhhfaaPVx25
namespace Go.Proofs.Ythcjcmgdblhhfaa.PV
open Go.RowKit Go.Proofs.YthcjcmgdblhhfaaW.PrintWords Go.Proofs.YthcjcmgdblhhfaaW.PrintLast Go.Proofs.YthcjcmgdblhhfaaW.PrintMore
attribute [local go_sem] max2_int min2_int max_two min_two max_three min_three max_four min_four   -- for this text's walks alone
set_option linter.unusedVariables false
set_option linter.unusedSimpArgs false

/-! ### batonref03_one: function 46 -/
mutual
def batonref03_one.j0 : Nat → Bool → Bool → ByteArray → Int → Int → Option (ByteArray)
 | 0,_,_,_,_,_=>none
 | k + 1,x20,x362000,x362001,x362002,x362003=>if x20 = true then ((batonref03_bytes.f k (wrap64 ((wrap64 ((wrap64 ((wrap64 (Int.tdiv x362002 256)) * 32)) + (wrap64 ((wrap64 (x362003 - 4)) * 4)))) + 1)) 1).bind fun t362=>((batonref03_bytes.f k (Int.tmod x362002 256) 1).bind fun t363=>(if t362.size + t363.size ≤ 9223372036854775807 then (some (t362 ++ t363)) else (none)))) else (if x362000 = true then (batonref03_one.j1 k (decide (x362002 < 65536)) x362000 x362001 x362002 x362003) else (batonref03_one.j1 k false x362000 x362001 x362002 x362003))
def batonref03_one.j1 : Nat → Bool → Bool → ByteArray → Int → Int → Option (ByteArray)
 | 0,_,_,_,_,_=>none
 | k + 1,x43,x362000,x362001,x362002,x362003=>if x43 = true then ((batonref03_bytes.f k (wrap64 ((wrap64 ((wrap64 (x362003 - 1)) * 4)) + 2)) 1).bind fun t364=>((batonref03_bytes.f k x362002 2).bind fun t365=>(if t364.size + t365.size ≤ 9223372036854775807 then (some (t364 ++ t365)) else (none)))) else (if x362000 = true then ((batonref03_bytes.f k (wrap64 ((wrap64 ((wrap64 (x362003 - 1)) * 4)) + 3)) 1).bind fun t366=>((batonref03_bytes.f k x362002 4).bind fun t367=>(if t366.size + t367.size ≤ 9223372036854775807 then (some (t366 ++ t367)) else (none)))) else (if (wrap64 ((x362001.size : Int) - 1)) < 60 then ((batonref03_bytes.f k (wrap64 ((wrap64 ((x362001.size : Int) - 1)) * 4)) 1).bind fun t368=>(if t368.size + x362001.size ≤ 9223372036854775807 then (some (t368 ++ x362001)) else (none))) else (if (wrap64 ((x362001.size : Int) - 1)) < 256 then ((batonref03_bytes.f k 240 1).bind fun t369=>((batonref03_bytes.f k (wrap64 ((x362001.size : Int) - 1)) 1).bind fun t370=>(if t369.size + t370.size ≤ 9223372036854775807 then (if (t369 ++ t370).size + x362001.size ≤ 9223372036854775807 then (some ((t369 ++ t370) ++ x362001)) else (none)) else (none)))) else ((batonref03_bytes.f k 244 1).bind fun t371=>((batonref03_bytes.f k (wrap64 ((x362001.size : Int) - 1)) 2).bind fun t372=>(if t371.size + t372.size ≤ 9223372036854775807 then (if (t371 ++ t372).size + x362001.size ≤ 9223372036854775807 then (some ((t371 ++ t372) ++ x362001)) else (none)) else (none)))))))
end
def batonref03_one.f (k : Nat) (a0_0 : Bool) (a0_1 : ByteArray) (a0_2 : Int) (a0_3 : Int) : Option (ByteArray) := if a0_0 = true then (if a0_3 ≥ 4 then (if a0_3 ≤ 11 then (batonref03_one.j0 k (decide (a0_2 < 2048)) a0_0 a0_1 a0_2 a0_3) else (batonref03_one.j0 k false a0_0 a0_1 a0_2 a0_3)) else (batonref03_one.j0 k false a0_0 a0_1 a0_2 a0_3)) else (batonref03_one.j0 k false a0_0 a0_1 a0_2 a0_3)
theorem batonref03_one.mono_l : ∀ k, (∀ y0 y1 y2 y3 y4, LeO (batonref03_one.j0 k y0 y1 y2 y3 y4) (batonref03_one.j0 (k + 1) y0 y1 y2 y3 y4)) ∧ (∀ y0 y1 y2 y3 y4, LeO (batonref03_one.j1 k y0 y1 y2 y3 y4) (batonref03_one.j1 (k + 1) y0 y1 y2 y3 y4))
 | 0=>⟨fun _ _ _ _ _ r h=>by simp [batonref03_one.j0] at h,fun _ _ _ _ _ r h=>by simp [batonref03_one.j1] at h⟩
 | k + 1=>by
  obtain ⟨ih0,ih1⟩ := batonref03_one.mono_l k
  refine ⟨?_,?_⟩
  ·intro y0 y1 y2 y3 y4
   unfold batonref03_one.j0
   repeat' first
   | (with_reducible exact ih0 _ _ _ _ _)
   | (with_reducible exact ih1 _ _ _ _ _)
   | (with_reducible exact batonref03_bytes.mono _ _ _)
   | (with_reducible exact LeO.refl _)
   | (with_reducible exact LeO.none _)
   | (with_reducible refine LeO.ite ?_ ?_)
   | (with_reducible refine LeO.bind ?_ (fun _=>?_))
   | exact ih0 _ _ _ _ _
   | exact ih1 _ _ _ _ _
   | exact batonref03_bytes.mono _ _ _
   | exact LeO.none _
   | refine LeO.ite ?_ ?_
   | refine LeO.bind ?_ (fun _=>?_)
  ·intro y0 y1 y2 y3 y4
   unfold batonref03_one.j1
   repeat' first
   | (with_reducible exact ih0 _ _ _ _ _)
   | (with_reducible exact ih1 _ _ _ _ _)
   | (with_reducible exact batonref03_bytes.mono _ _ _)
   | (with_reducible exact LeO.refl _)
   | (with_reducible exact LeO.none _)
   | (with_reducible refine LeO.ite ?_ ?_)
   | (with_reducible refine LeO.bind ?_ (fun _=>?_))
   | exact ih0 _ _ _ _ _
   | exact ih1 _ _ _ _ _
   | exact batonref03_bytes.mono _ _ _
   | exact LeO.none _
   | refine LeO.ite ?_ ?_
   | refine LeO.bind ?_ (fun _=>?_)
theorem batonref03_one.mono : ∀ a0 a1 a2 a3 k, LeO (batonref03_one.f k a0 a1 a2 a3) (batonref03_one.f (k + 1) a0 a1 a2 a3) := by
 intro a0 a1 a2 a3 k
 obtain ⟨ih0,ih1⟩ := batonref03_one.mono_l k
 unfold batonref03_one.f
 repeat' first
   | (with_reducible exact ih0 _ _ _ _ _)
   | (with_reducible exact ih1 _ _ _ _ _)
   | (with_reducible exact batonref03_bytes.mono _ _ _)
   | (with_reducible exact LeO.refl _)
   | (with_reducible exact LeO.none _)
   | (with_reducible refine LeO.ite ?_ ?_)
   | (with_reducible refine LeO.bind ?_ (fun _=>?_))
   | exact ih0 _ _ _ _ _
   | exact ih1 _ _ _ _ _
   | exact batonref03_bytes.mono _ _ _
   | exact LeO.none _
   | refine LeO.ite ?_ ?_
   | refine LeO.bind ?_ (fun _=>?_)
def batonref03_one.T2 : Bool × List (List Nat × List Nat) := (true, [([], []), ([0], [0]), ([1], [1]), ([2], [2]), ([], []), ([4], [4]), ([5], [5]), ([6], [6]), ([3, 7], [3, 7]), ([8], [8]), ([9], [9]), ([], []), ([11], [11]), ([12], [12]), ([13, 10], [13]), ([10, 14], [10, 14]), ([15, 14, 0, 1, 2, 3, 4, 5, 6, 7, 8, 9, 10, 11, 12, 13, 14, 15], [15])])
def batonref03_one.B2 : List Nat := [0, 1, 3, 7, 0, 16, 48, 112, 255, 511, 1023, 0, 2048, 6144, 16383, 32767, 65535]
theorem batonref03_one.tab2 : rtab .any (opsOf Try.f46 2) = batonref03_one.T2 := by kernel_rfl
theorem batonref03_one.bits2 : waitsOk batonref03_one.T2.2 batonref03_one.B2 = true := by kernel_rfl
def batonref03_one.T4 : Bool × List (List Nat × List Nat) := (true, [([], []), ([0], [0]), ([1], [1]), ([2], [2]), ([3], [3]), ([4], [4]), ([], []), ([6], [6]), ([7, 5], [7]), ([5, 8], [5, 8]), ([9, 8, 0, 1, 2, 3, 4, 5, 6, 7, 8, 9], [9])])
def batonref03_one.B4 : List Nat := [0, 1, 3, 7, 15, 31, 0, 64, 255, 511, 1023]
theorem batonref03_one.tab4 : rtab .any (opsOf Try.f46 4) = batonref03_one.T4 := by kernel_rfl
theorem batonref03_one.bits4 : waitsOk batonref03_one.T4.2 batonref03_one.B4 = true := by kernel_rfl
def batonref03_one.T6 : Bool × List (List Nat × List Nat) := (true, [([], []), ([0], [0]), ([1], [1]), ([2], [2]), ([3], [3]), ([4], [4]), ([], []), ([6], [6]), ([7, 5], [7]), ([5, 8], [5, 8]), ([9, 8, 0, 1, 2, 3, 4, 5, 6, 7, 8, 9], [9])])
def batonref03_one.B6 : List Nat := [0, 1, 3, 7, 15, 31, 0, 64, 255, 511, 1023]
theorem batonref03_one.tab6 : rtab .any (opsOf Try.f46 6) = batonref03_one.T6 := by kernel_rfl
theorem batonref03_one.bits6 : waitsOk batonref03_one.T6.2 batonref03_one.B6 = true := by kernel_rfl
def batonref03_one.T11 : Bool × List (List Nat × List Nat) := (true, [([], []), ([], []), ([1, 0], [1]), ([0, 2], [0, 2]), ([], []), ([4], [4]), ([3, 5], [3, 5]), ([6, 2, 0, 1, 2, 3, 4, 5, 6], [6])])
def batonref03_one.B11 : List Nat := [0, 0, 3, 7, 0, 16, 63, 127]
theorem batonref03_one.tab11 : rtab .any (opsOf Try.f46 11) = batonref03_one.T11 := by kernel_rfl
theorem batonref03_one.bits11 : waitsOk batonref03_one.T11.2 batonref03_one.B11 = true := by kernel_rfl
def batonref03_one.T12 : Bool × List (List Nat × List Nat) := (true, [([], []), ([], []), ([1, 0], [1]), ([0, 2], [0, 2]), ([], []), ([4], [4]), ([3, 5], [3, 5]), ([6, 2, 0, 1, 2, 3, 4, 5, 6], [6])])
def batonref03_one.B12 : List Nat := [0, 0, 3, 7, 0, 16, 63, 127]
theorem batonref03_one.tab12 : rtab .any (opsOf Try.f46 12) = batonref03_one.T12 := by kernel_rfl
theorem batonref03_one.bits12 : waitsOk batonref03_one.T12.2 batonref03_one.B12 = true := by kernel_rfl
set_option maxHeartbeats 8000000 in
set_option maxRecDepth 100000 in
theorem batonref03_one.calls (k : Nat) (a0_0 : Bool) (a0_1 : ByteArray) (a0_2 : Int) (a0_3 : Int) (r : ByteArray) (w : World) (h : batonref03_one.f k a0_0 a0_1 a0_2 a0_3 = some r) :
  Calls Try.prog 46 #[.agg #[.bool a0_0,.string a0_1,.int .i64 a0_2,.int .i64 a0_3]] w fun e w'=>e = .returned (.string r) ∧ Below w.heap.size w w' := by
 have hu72 := Try.underlying72
 have HB := Aside0.mk (Below.refl w.heap.size w)
 have H : (if a0_0 = true then (if a0_3 ≥ 4 then (if a0_3 ≤ 11 then (batonref03_one.j0 k (decide (a0_2 < 2048)) a0_0 a0_1 a0_2 a0_3) else (batonref03_one.j0 k false a0_0 a0_1 a0_2 a0_3)) else (batonref03_one.j0 k false a0_0 a0_1 a0_2 a0_3)) else (batonref03_one.j0 k false a0_0 a0_1 a0_2 a0_3)) = some r := h
 clear h
 have HC2 := Aside0.mk H
 clear H
 go_enter Try.func46,Try.ntmps46
 go_upto_region 1 with (first|((with_reducible refine gate_dst (N := 1) rfl ?_);refine box_event ?hg (N := 1) ?hd (cs := #[.bool a0_0,.string a0_1,.int .i64 a0_2,.int .i64 a0_3]) (t := 72) ?hr ?_;(case hd=>rfl);(case hg=>rfl);(case hr=>first|(go_simp;done)|(go_simp;rfl)|(go_simp;simp [my_u8w];done));intro gb361 hg w3 hbox hb;have n0_ := Aside0.mk (below_step (bl_) hb);have n1_ := Aside0.mk (hbox);have n2_ := Aside0.mk ((by rw [hg];exact (below_size (bl_)) : w.heap.size ≤ gb361));have n3_ := Aside0.mk ((by rw [hg];exact (below_size (bl_)) : w.heap.size ≤ gb361));clear HB;have HB := n0_;have BK361 := n1_;have GW361 := n2_;have GE361 := n3_;clear n0_ n1_ n2_ n3_;clear hb hbox hg))
 (try simp only [Act.put,List.setIfInBounds_toArray,List.set_cons_zero,List.set_cons_succ])
 go_cut [20] (fun v20 wc=>∃ (kq : Nat) (x20_1 : Bool),v20 = .bool x20_1 ∧ Aside0 (batonref03_one.j0 kq x20_1 a0_0 a0_1 a0_2 a0_3 = some r) ∧ Aside0 (kq ≤ k) ∧ Aside0 (wc.heap[gb361]? = some (.cells #[.bool a0_0,.string a0_1,.int .i64 a0_2,.int .i64 a0_3] 72 (0,0))) ∧ Aside0 (Below w.heap.size w wc))
 case first =>
  have H := HC2.out
  clear HC2
  by_cases c4 : a0_0 = true
  ·subst c4
   have H1 : (if a0_3 ≥ 4 then (if a0_3 ≤ 11 then (batonref03_one.j0 k (decide (a0_2 < 2048)) true a0_1 a0_2 a0_3) else (batonref03_one.j0 k false true a0_1 a0_2 a0_3)) else (batonref03_one.j0 k false true a0_1 a0_2 a0_3)) = some r := by rw [if_pos rfl] at H;exact H
   clear H
   have H := H1
   clear H1
   by_cases c5 : a0_3 ≥ 4
   ·rw [if_pos c5] at H
    have c5b0 : decide (4 ≤ a0_3) = true := decide_eq_true c5
    clear c5
    (first|rw [c5b0]|(simp only [i64_w,i32_w];rw [c5b0])|skip)
    by_cases c6 : a0_3 ≤ 11
    ·rw [if_pos c6] at H
     have c6b0 : decide (a0_3 ≤ 11) = true := decide_eq_true c6
     clear c6
     have H' := Aside0.mk H
     clear H
     have hcz7_0 : w3.cell? ⟨gb361,0,none⟩ = some (.bool true) := (blk_cell BK361.out 0).trans rfl
     have hcz7_1 : w3.cell? ⟨gb361,1,none⟩ = some (.string a0_1) := (blk_cell BK361.out 1).trans rfl
     have hcz7_2 : w3.cell? ⟨gb361,2,none⟩ = some (.int .i64 a0_2) := (blk_cell BK361.out 2).trans rfl
     have hcz7_3 : w3.cell? ⟨gb361,3,none⟩ = some (.int .i64 a0_3) := (blk_cell BK361.out 3).trans rfl
     have hfz7_0 := blk_frozen BK361.out 0
     have hfz7_1 := blk_frozen BK361.out 1
     have hfz7_2 := blk_frozen BK361.out 2
     have hfz7_3 := blk_frozen BK361.out 3
     go_wp2
     go_meet
     case rel=>exact ⟨_,(decide (a0_2 < 2048)),q4_,H',⟨q50_⟩,⟨q35_⟩,⟨q16_⟩⟩
    ·rw [if_neg c6] at H
     have c6b0 : decide (a0_3 ≤ 11) = false := decide_eq_false c6
     clear c6
     have H' := Aside0.mk H
     clear H
     have hcz8_0 : w3.cell? ⟨gb361,0,none⟩ = some (.bool true) := (blk_cell BK361.out 0).trans rfl
     have hcz8_1 : w3.cell? ⟨gb361,1,none⟩ = some (.string a0_1) := (blk_cell BK361.out 1).trans rfl
     have hcz8_2 : w3.cell? ⟨gb361,2,none⟩ = some (.int .i64 a0_2) := (blk_cell BK361.out 2).trans rfl
     have hcz8_3 : w3.cell? ⟨gb361,3,none⟩ = some (.int .i64 a0_3) := (blk_cell BK361.out 3).trans rfl
     have hfz8_0 := blk_frozen BK361.out 0
     have hfz8_1 := blk_frozen BK361.out 1
     have hfz8_2 := blk_frozen BK361.out 2
     have hfz8_3 := blk_frozen BK361.out 3
     go_wp2
     go_meet
     case rel=>exact ⟨_,(false),q4_,H',⟨q50_⟩,⟨q35_⟩,⟨q16_⟩⟩
   ·rw [if_neg c5] at H
    have c5b0 : decide (4 ≤ a0_3) = false := decide_eq_false c5
    clear c5
    (first|rw [c5b0]|(simp only [i64_w,i32_w];rw [c5b0])|skip)
    have H' := Aside0.mk H
    clear H
    have hcz9_0 : w3.cell? ⟨gb361,0,none⟩ = some (.bool true) := (blk_cell BK361.out 0).trans rfl
    have hcz9_1 : w3.cell? ⟨gb361,1,none⟩ = some (.string a0_1) := (blk_cell BK361.out 1).trans rfl
    have hcz9_2 : w3.cell? ⟨gb361,2,none⟩ = some (.int .i64 a0_2) := (blk_cell BK361.out 2).trans rfl
    have hcz9_3 : w3.cell? ⟨gb361,3,none⟩ = some (.int .i64 a0_3) := (blk_cell BK361.out 3).trans rfl
    have hfz9_0 := blk_frozen BK361.out 0
    have hfz9_1 := blk_frozen BK361.out 1
    have hfz9_2 := blk_frozen BK361.out 2
    have hfz9_3 := blk_frozen BK361.out 3
    go_wp2
    go_meet
    case rel=>exact ⟨_,(false),q4_,H',⟨q50_⟩,⟨q35_⟩,⟨q16_⟩⟩
  ·replace c4 := Bool.eq_false_iff.mpr c4
   subst c4
   have H1 : (batonref03_one.j0 k false false a0_1 a0_2 a0_3) = some r := by rw [if_neg (show ¬ (false = true) by decide)] at H;exact H
   clear H
   have H := H1
   clear H1
   have H' := Aside0.mk H
   clear H
   have hcz10_0 : w3.cell? ⟨gb361,0,none⟩ = some (.bool false) := (blk_cell BK361.out 0).trans rfl
   have hcz10_1 : w3.cell? ⟨gb361,1,none⟩ = some (.string a0_1) := (blk_cell BK361.out 1).trans rfl
   have hcz10_2 : w3.cell? ⟨gb361,2,none⟩ = some (.int .i64 a0_2) := (blk_cell BK361.out 2).trans rfl
   have hcz10_3 : w3.cell? ⟨gb361,3,none⟩ = some (.int .i64 a0_3) := (blk_cell BK361.out 3).trans rfl
   have hfz10_0 := blk_frozen BK361.out 0
   have hfz10_1 := blk_frozen BK361.out 1
   have hfz10_2 := blk_frozen BK361.out 2
   have hfz10_3 := blk_frozen BK361.out 3
   go_wp2
   go_meet
   case rel=>exact ⟨_,(false),q4_,H',⟨q50_⟩,⟨q35_⟩,⟨q16_⟩⟩
 case rest =>
  clear HC2
  try clear p2
  try clear c4
  try clear c5
  try clear c5b0
  try clear c6
  try clear c6b0
  try clear hcz10_0
  try clear hcz10_1
  try clear hcz10_2
  try clear hcz10_3
  try clear hcz7_0
  try clear hcz7_1
  try clear hcz7_2
  try clear hcz7_3
  try clear hcz8_0
  try clear hcz8_1
  try clear hcz8_2
  try clear hcz8_3
  try clear hcz9_0
  try clear hcz9_1
  try clear hcz9_2
  try clear hcz9_3
  try clear hfz10_0
  try clear hfz10_1
  try clear hfz10_2
  try clear hfz10_3
  try clear hfz7_0
  try clear hfz7_1
  try clear hfz7_2
  try clear hfz7_3
  try clear hfz8_0
  try clear hfz8_1
  try clear hfz8_2
  try clear hfz8_3
  try clear hfz9_0
  try clear hfz9_1
  try clear hfz9_2
  try clear hfz9_3
  obtain ⟨kq,x20_1,rfl,HA,HJ1,BK361,HB⟩ := hcut
  cases kq with
  | zero=>exact absurd HA.out (by simp [batonref03_one.j0])
  | succ kj1 =>
   have H := HA.out
   clear HA
   simp only [batonref03_one.j0] at H
   by_cases c11 : x20_1 = true
   ·subst c11
    have H1 : ((batonref03_bytes.f kj1 (wrap64 ((wrap64 ((wrap64 ((wrap64 (Int.tdiv a0_2 256)) * 32)) + (wrap64 ((wrap64 (a0_3 - 4)) * 4)))) + 1)) 1).bind fun t362=>((batonref03_bytes.f kj1 (Int.tmod a0_2 256) 1).bind fun t363=>(if t362.size + t363.size ≤ 9223372036854775807 then (some (t362 ++ t363)) else (none)))) = some r := by rw [if_pos rfl] at H;exact H
    clear H
    have H := H1
    clear H1
    replace H := Option.bind_eq_some_iff.mp H
    obtain ⟨t362,A120,H⟩ := H
    replace H : ((batonref03_bytes.f kj1 (Int.tmod a0_2 256) 1).bind fun t363=>(if t362.size + t363.size ≤ 9223372036854775807 then (some (t362 ++ t363)) else (none))) = some r := H
    have A12 := Aside0.mk A120
    clear A120
    replace H := Option.bind_eq_some_iff.mp H
    obtain ⟨t363,A130,H⟩ := H
    replace H : (if t362.size + t363.size ≤ 9223372036854775807 then (some (t362 ++ t363)) else (none)) = some r := H
    have A13 := Aside0.mk A130
    clear A130
    by_cases c14 : t362.size + t363.size ≤ 9223372036854775807
    ·rw [if_pos c14] at H
     have c14b0 := eq_true c14
     have c14b1 : decide (t362.size + t363.size ≤ 9223372036854775807) = true := decide_eq_true c14
     try have c14b2 : (9223372036854775807 < t362.size + t363.size) = False := eq_false (Nat.not_lt.2 c14)
     (try (have c14b3 := c14b2;simp only [ByteArray.size_append] at c14b3))
     clear c14
     obtain rfl := Option.some.inj H
     try go_wp2
     have n0_ := Aside0.mk (blk_drew BK361.out)
     have n1_ := Aside0.mk (below_drew1 HB.out)
     clear BK361
     clear HB
     have BK361 := n0_
     have HB := n1_
     clear n0_ n1_
     refine start_ (n := 17) (S := fun w'=>w'.cell? ⟨gb361,0,none⟩ = some (.bool a0_0) ∧ w'.cell? ⟨gb361,1,none⟩ = some (.string a0_1) ∧ w'.cell? ⟨gb361,2,none⟩ = some (.int .i64 a0_2) ∧ w'.cell? ⟨gb361,3,none⟩ = some (.int .i64 a0_3)) (ds := []) #[false,false,false,false,false,false,false,false,false,false,false,false,false,false,false,false,false] q9_ rfl rfl ⟨(blk_cell BK361.out 0).trans rfl,(blk_cell BK361.out 1).trans rfl,(blk_cell BK361.out 2).trans rfl,(blk_cell BK361.out 3).trans rfl⟩ (fun hHeld=>?_);refine with_tabW batonref03_one.tab2 batonref03_one.bits2 (fun HT_ HW_=>?_)
     generalize wc.drew = w15 at BK361 HB hHeld ⊢
     refine pure_ (i := 0) (N := some 21) (v := ?_) (a' := ?_) #[true,false,false,false,false,false,false,false,false,false,false,false,false,false,false,false,false] rfl rfl (any_of HT_.out q9_) (fun _ _ _ h=>h) (Or.inl ⟨by rfl,?_⟩) ?_ ?_
     rotate_left
     ·intro w'
      go_simp
      with_reducible rfl
     rotate_left
     ·simp only [Act.put,List.setIfInBounds_toArray,List.set_cons_zero,List.set_cons_succ,i64_w,i32_w]
      rfl
     refine pure_ (i := 4) (N := some 25) (v := ?_) (a' := ?_) #[true,false,false,false,true,false,false,false,false,false,false,false,false,false,false,false,false] rfl rfl (any_of HT_.out q9_) (fun _ _ _ h=>h) (Or.inl ⟨by rfl,?_⟩) ?_ ?_
     rotate_left
     ·intro w'
      go_simp
      with_reducible rfl
     rotate_left
     ·simp only [Act.put,List.setIfInBounds_toArray,List.set_cons_zero,List.set_cons_succ,i64_w,i32_w]
      rfl
     refine pure_ (i := 11) (N := some 32) (v := ?_) (a' := ?_) #[true,false,false,false,true,false,false,false,false,false,false,true,false,false,false,false,false] rfl rfl (any_of HT_.out q9_) (fun _ _ _ h=>h) (Or.inl ⟨by rfl,?_⟩) ?_ ?_
     rotate_left
     ·intro w'
      go_simp
      with_reducible rfl
     rotate_left
     ·simp only [Act.put,List.setIfInBounds_toArray,List.set_cons_zero,List.set_cons_succ,i64_w,i32_w]
      rfl
     refine take_ (i := 1) (N := some 22) (v := ?_) (a' := ?_) #[true,true,false,false,true,false,false,false,false,false,false,true,false,false,false,false,false] rfl rfl (take_ofW HT_.out HW_.out q9_) (fun _ _ _ h=>h) (Or.inl ⟨by rfl,?_⟩) hHeld ?_ ?_
     rotate_left
     ·rintro w' ⟨s0,s1,s2,s3⟩
      go_simp
      with_reducible rfl
     rotate_left
     ·simp only [Act.put,List.setIfInBounds_toArray,List.set_cons_zero,List.set_cons_succ,i64_w,i32_w]
      rfl
     refine pure_ (i := 2) (N := some 23) (v := ?_) (a' := ?_) #[true,true,true,false,true,false,false,false,false,false,false,true,false,false,false,false,false] rfl rfl (any_of HT_.out q9_) (fun _ _ _ h=>h) (Or.inl ⟨by rfl,?_⟩) ?_ ?_
     rotate_left
     ·intro w'
      go_simp
      with_reducible rfl
     rotate_left
     ·simp only [Act.put,List.setIfInBounds_toArray,List.set_cons_zero,List.set_cons_succ,i64_w,i32_w]
      rfl
     refine pure_ (i := 3) (N := some 24) (v := ?_) (a' := ?_) #[true,true,true,true,true,false,false,false,false,false,false,true,false,false,false,false,false] rfl rfl (any_of HT_.out q9_) (fun _ _ _ h=>h) (Or.inl ⟨by rfl,?_⟩) ?_ ?_
     rotate_left
     ·intro w'
      go_simp
      with_reducible rfl
     rotate_left
     ·simp only [Act.put,List.setIfInBounds_toArray,List.set_cons_zero,List.set_cons_succ,i64_w,i32_w]
      rfl
     refine take_ (i := 5) (N := some 26) (v := ?_) (a' := ?_) #[true,true,true,true,true,true,false,false,false,false,false,true,false,false,false,false,false] rfl rfl (take_ofW HT_.out HW_.out q9_) (fun _ _ _ h=>h) (Or.inl ⟨by rfl,?_⟩) hHeld ?_ ?_
     rotate_left
     ·rintro w' ⟨s0,s1,s2,s3⟩
      go_simp
      with_reducible rfl
     rotate_left
     ·simp only [Act.put,List.setIfInBounds_toArray,List.set_cons_zero,List.set_cons_succ,i64_w,i32_w]
      rfl
     refine pure_ (i := 6) (N := some 27) (v := ?_) (a' := ?_) #[true,true,true,true,true,true,true,false,false,false,false,true,false,false,false,false,false] rfl rfl (any_of HT_.out q9_) (fun _ _ _ h=>h) (Or.inl ⟨by rfl,?_⟩) ?_ ?_
     rotate_left
     ·intro w'
      go_simp
      with_reducible rfl
     rotate_left
     ·simp only [Act.put,List.setIfInBounds_toArray,List.set_cons_zero,List.set_cons_succ,i64_w,i32_w]
      rfl
     refine pure_ (i := 7) (N := some 28) (v := ?_) (a' := ?_) #[true,true,true,true,true,true,true,true,false,false,false,true,false,false,false,false,false] rfl rfl (any_of HT_.out q9_) (fun _ _ _ h=>h) (Or.inl ⟨by rfl,?_⟩) ?_ ?_
     rotate_left
     ·intro w'
      go_simp
      with_reducible rfl
     rotate_left
     ·simp only [Act.put,List.setIfInBounds_toArray,List.set_cons_zero,List.set_cons_succ,i64_w,i32_w]
      rfl
     refine pure_ (i := 8) (N := some 29) (v := ?_) (a' := ?_) #[true,true,true,true,true,true,true,true,true,false,false,true,false,false,false,false,false] rfl rfl (any_of HT_.out q9_) (fun _ _ _ h=>h) (Or.inl ⟨by rfl,?_⟩) ?_ ?_
     rotate_left
     ·intro w'
      go_simp
      with_reducible rfl
     rotate_left
     ·simp only [Act.put,List.setIfInBounds_toArray,List.set_cons_zero,List.set_cons_succ,i64_w,i32_w]
      rfl
     refine pure_ (i := 9) (N := some 30) (v := ?_) (a' := ?_) #[true,true,true,true,true,true,true,true,true,true,false,true,false,false,false,false,false] rfl rfl (any_of HT_.out q9_) (fun _ _ _ h=>h) (Or.inl ⟨by rfl,?_⟩) ?_ ?_
     rotate_left
     ·intro w'
      go_simp
      with_reducible rfl
     rotate_left
     ·simp only [Act.put,List.setIfInBounds_toArray,List.set_cons_zero,List.set_cons_succ,i64_w,i32_w]
      rfl
     refine take_ (i := 12) (N := some 33) (v := ?_) (a' := ?_) #[true,true,true,true,true,true,true,true,true,true,false,true,true,false,false,false,false] rfl rfl (take_ofW HT_.out HW_.out q9_) (fun _ _ _ h=>h) (Or.inl ⟨by rfl,?_⟩) hHeld ?_ ?_
     rotate_left
     ·rintro w' ⟨s0,s1,s2,s3⟩
      go_simp
      with_reducible rfl
     rotate_left
     ·simp only [Act.put,List.setIfInBounds_toArray,List.set_cons_zero,List.set_cons_succ,i64_w,i32_w]
      rfl
     refine pure_ (i := 13) (N := some 34) (v := ?_) (a' := ?_) #[true,true,true,true,true,true,true,true,true,true,false,true,true,true,false,false,false] rfl rfl (any_of HT_.out q9_) (fun _ _ _ h=>h) (Or.inl ⟨by rfl,?_⟩) ?_ ?_
     rotate_left
     ·intro w'
      go_simp
      with_reducible rfl
     rotate_left
     ·simp only [Act.put,List.setIfInBounds_toArray,List.set_cons_zero,List.set_cons_succ,i64_w,i32_w]
      rfl
     refine one_ (i := 10) (N := some 31) #[true,true,true,true,true,true,true,true,true,true,true,true,true,true,false,false,false] rfl rfl (one_of HT_.out q9_) (by decide) (fun K hK=>?_)
     refine goes_ Try.func57 q9_ rfl #[.int .i64 (wrap64 ((wrap64 ((wrap64 ((wrap64 (Int.tdiv a0_2 256)) * 32)) + (wrap64 ((wrap64 (a0_3 - 4)) * 4)))) + 1)),.int .i64 1] (by rfl) rfl rfl q0_ ?_
     with_reducible refine (batonref03_bytes.calls kj1 (wrap64 ((wrap64 ((wrap64 ((wrap64 (Int.tdiv a0_2 256)) * 32)) + (wrap64 ((wrap64 (a0_3 - 4)) * 4)))) + 1)) 1 t362 _ A12.out).mono ?_
     rintro e w16 ⟨rfl,hb⟩
     refine ⟨_,rfl,?_⟩
     have n0_ := Aside0.mk (blk_below (g := gb361) (o := .cells #[.bool a0_0,.string a0_1,.int .i64 a0_2,.int .i64 a0_3] 72 (0,0)) q35_ hb)
     have n1_ := Aside0.mk (below_step q16_ hb)
     clear BK361
     clear HB
     have BK361 := n0_
     have HB := n1_
     clear n0_ n1_
     (try clear hb)
     (try clear hb2)
     (try clear hk)
     (try clear hi)
     refine hK.out _ _ ⟨(blk_cell BK361.out 0).trans rfl,(blk_cell BK361.out 1).trans rfl,(blk_cell BK361.out 2).trans rfl,(blk_cell BK361.out 3).trans rfl⟩ (fun hHeld=>?_)
     clear hK K
     refine norm_ (a' := ?_) ?_ ?_
     rotate_left
     ·show Act.put _ (some 31) _ = _
      simp only [Act.put,List.setIfInBounds_toArray,List.set_cons_zero,List.set_cons_succ,i64_w,i32_w]
      rfl
     refine one_ (i := 14) (N := some 35) #[true,true,true,true,true,true,true,true,true,true,true,true,true,true,true,false,false] rfl rfl (one_of HT_.out q9_) (by decide) (fun K hK=>?_)
     refine goes_ Try.func57 q9_ rfl #[.int .i64 (Int.tmod a0_2 256),.int .i64 1] (by rfl) rfl rfl q0_ ?_
     with_reducible refine (batonref03_bytes.calls kj1 (Int.tmod a0_2 256) 1 t363 _ A13.out).mono ?_
     rintro e w17 ⟨rfl,hb⟩
     refine ⟨_,rfl,?_⟩
     have n0_ := Aside0.mk (blk_below (g := gb361) (o := .cells #[.bool a0_0,.string a0_1,.int .i64 a0_2,.int .i64 a0_3] 72 (0,0)) q35_ hb)
     have n1_ := Aside0.mk (below_step q16_ hb)
     clear BK361
     clear HB
     have BK361 := n0_
     have HB := n1_
     clear n0_ n1_
     (try clear hb)
     (try clear hb2)
     (try clear hk)
     (try clear hi)
     refine hK.out _ _ ⟨(blk_cell BK361.out 0).trans rfl,(blk_cell BK361.out 1).trans rfl,(blk_cell BK361.out 2).trans rfl,(blk_cell BK361.out 3).trans rfl⟩ (fun hHeld=>?_)
     clear hK K
     refine norm_ (a' := ?_) ?_ ?_
     rotate_left
     ·show Act.put _ (some 35) _ = _
      simp only [Act.put,List.setIfInBounds_toArray,List.set_cons_zero,List.set_cons_succ,i64_w,i32_w]
      rfl
     refine pure_ (i := 15) (N := some 36) (v := ?_) (a' := ?_) #[true,true,true,true,true,true,true,true,true,true,true,true,true,true,true,true,false] rfl rfl (any_of HT_.out q9_) (fun _ _ _ h=>h) (Or.inl ⟨by rfl,?_⟩) ?_ ?_
     rotate_left
     ·intro w'
      go_simp
      with_reducible rfl
     rotate_left
     ·simp only [Act.put,List.setIfInBounds_toArray,List.set_cons_zero,List.set_cons_succ,i64_w,i32_w]
      rfl
     refine pure_ (i := 16) (N := some 2) (v := ?_) (a' := ?_) #[true,true,true,true,true,true,true,true,true,true,true,true,true,true,true,true,true] rfl rfl (any_of HT_.out q9_) (fun _ _ _ h=>h) (Or.inl ⟨by rfl,?_⟩) ?_ ?_
     rotate_left
     ·intro w'
      go_simp
      with_reducible rfl
     rotate_left
     ·simp only [Act.put,List.setIfInBounds_toArray,List.set_cons_zero,List.set_cons_succ,i64_w,i32_w]
      rfl
     refine done_ (done_of HT_.out q9_) ?_
     try go_wp2
     go_ret
     exact ⟨q1_,q16_⟩
    ·rw [if_neg c14] at H
     exact absurd H (by simp)
   ·replace c11 := Bool.eq_false_iff.mpr c11
    subst c11
    have H1 : (if a0_0 = true then (batonref03_one.j1 kj1 (decide (a0_2 < 65536)) a0_0 a0_1 a0_2 a0_3) else (batonref03_one.j1 kj1 false a0_0 a0_1 a0_2 a0_3)) = some r := by rw [if_neg (show ¬ (false = true) by decide)] at H;exact H
    clear H
    have H := H1
    clear H1
    have HC18 := Aside0.mk H
    clear H
    go_upto_region 3 with (fail)
    go_cut [43] (fun v43 wc=>∃ (kq : Nat) (x43_17 : Bool),v43 = .bool x43_17 ∧ Aside0 (batonref03_one.j1 kq x43_17 a0_0 a0_1 a0_2 a0_3 = some r) ∧ Aside0 (kq ≤ kj1) ∧ Aside0 (wc.heap[gb361]? = some (.cells #[.bool a0_0,.string a0_1,.int .i64 a0_2,.int .i64 a0_3] 72 (0,0))) ∧ Aside0 (Below w.heap.size w wc))
    case first =>
     have H := HC18.out
     clear HC18
     by_cases c19 : a0_0 = true
     ·subst c19
      have H1 : (batonref03_one.j1 kj1 (decide (a0_2 < 65536)) true a0_1 a0_2 a0_3) = some r := by rw [if_pos rfl] at H;exact H
      clear H
      have H := H1
      clear H1
      have H' := Aside0.mk H
      clear H
      have hcz20_0 : wc.cell? ⟨gb361,0,none⟩ = some (.bool true) := (blk_cell BK361.out 0).trans rfl
      have hcz20_1 : wc.cell? ⟨gb361,1,none⟩ = some (.string a0_1) := (blk_cell BK361.out 1).trans rfl
      have hcz20_2 : wc.cell? ⟨gb361,2,none⟩ = some (.int .i64 a0_2) := (blk_cell BK361.out 2).trans rfl
      have hcz20_3 : wc.cell? ⟨gb361,3,none⟩ = some (.int .i64 a0_3) := (blk_cell BK361.out 3).trans rfl
      have hfz20_0 := blk_frozen BK361.out 0
      have hfz20_1 := blk_frozen BK361.out 1
      have hfz20_2 := blk_frozen BK361.out 2
      have hfz20_3 := blk_frozen BK361.out 3
      go_wp2
      go_meet
      case rel=>exact ⟨_,(decide (a0_2 < 65536)),q4_,H',⟨q111_⟩,⟨q35_⟩,⟨q16_⟩⟩
     ·replace c19 := Bool.eq_false_iff.mpr c19
      subst c19
      have H1 : (batonref03_one.j1 kj1 false false a0_1 a0_2 a0_3) = some r := by rw [if_neg (show ¬ (false = true) by decide)] at H;exact H
      clear H
      have H := H1
      clear H1
      have H' := Aside0.mk H
      clear H
      have hcz21_0 : wc.cell? ⟨gb361,0,none⟩ = some (.bool false) := (blk_cell BK361.out 0).trans rfl
      have hcz21_1 : wc.cell? ⟨gb361,1,none⟩ = some (.string a0_1) := (blk_cell BK361.out 1).trans rfl
      have hcz21_2 : wc.cell? ⟨gb361,2,none⟩ = some (.int .i64 a0_2) := (blk_cell BK361.out 2).trans rfl
      have hcz21_3 : wc.cell? ⟨gb361,3,none⟩ = some (.int .i64 a0_3) := (blk_cell BK361.out 3).trans rfl
      have hfz21_0 := blk_frozen BK361.out 0
      have hfz21_1 := blk_frozen BK361.out 1
      have hfz21_2 := blk_frozen BK361.out 2
      have hfz21_3 := blk_frozen BK361.out 3
      go_wp2
      go_meet
      case rel=>exact ⟨_,(false),q4_,H',⟨q111_⟩,⟨q35_⟩,⟨q16_⟩⟩
    case rest =>
     clear HC18
     try clear c1
     try clear p2
     try clear c4
     try clear c5
     try clear c5b0
     try clear c6
     try clear c6b0
     try clear p6
     try clear c11
     try clear c14
     try clear c14b0
     try clear c14b1
     try clear c14b2
     try clear c19
     try clear hcz10_0
     try clear hcz10_1
     try clear hcz10_2
     try clear hcz10_3
     try clear hcz20_0
     try clear hcz20_1
     try clear hcz20_2
     try clear hcz20_3
     try clear hcz21_0
     try clear hcz21_1
     try clear hcz21_2
     try clear hcz21_3
     try clear hcz7_0
     try clear hcz7_1
     try clear hcz7_2
     try clear hcz7_3
     try clear hcz8_0
     try clear hcz8_1
     try clear hcz8_2
     try clear hcz8_3
     try clear hcz9_0
     try clear hcz9_1
     try clear hcz9_2
     try clear hcz9_3
     try clear hfz10_0
     try clear hfz10_1
     try clear hfz10_2
     try clear hfz10_3
     try clear hfz20_0
     try clear hfz20_1
     try clear hfz20_2
     try clear hfz20_3
     try clear hfz21_0
     try clear hfz21_1
     try clear hfz21_2
     try clear hfz21_3
     try clear hfz7_0
     try clear hfz7_1
     try clear hfz7_2
     try clear hfz7_3
     try clear hfz8_0
     try clear hfz8_1
     try clear hfz8_2
     try clear hfz8_3
     try clear hfz9_0
     try clear hfz9_1
     try clear hfz9_2
     try clear hfz9_3
     try clear p2
     obtain ⟨kq,x43_17,rfl,HA,HJ17,BK361,HB⟩ := hcut
     cases kq with
     | zero=>exact absurd HA.out (by simp [batonref03_one.j1])
     | succ kj17 =>
      have H := HA.out
      clear HA
      simp only [batonref03_one.j1] at H
      by_cases c22 : x43_17 = true
      ·subst c22
       have H1 : ((batonref03_bytes.f kj17 (wrap64 ((wrap64 ((wrap64 (a0_3 - 1)) * 4)) + 2)) 1).bind fun t364=>((batonref03_bytes.f kj17 a0_2 2).bind fun t365=>(if t364.size + t365.size ≤ 9223372036854775807 then (some (t364 ++ t365)) else (none)))) = some r := by rw [if_pos rfl] at H;exact H
       clear H
       have H := H1
       clear H1
       replace H := Option.bind_eq_some_iff.mp H
       obtain ⟨t364,A230,H⟩ := H
       replace H : ((batonref03_bytes.f kj17 a0_2 2).bind fun t365=>(if t364.size + t365.size ≤ 9223372036854775807 then (some (t364 ++ t365)) else (none))) = some r := H
       have A23 := Aside0.mk A230
       clear A230
       replace H := Option.bind_eq_some_iff.mp H
       obtain ⟨t365,A240,H⟩ := H
       replace H : (if t364.size + t365.size ≤ 9223372036854775807 then (some (t364 ++ t365)) else (none)) = some r := H
       have A24 := Aside0.mk A240
       clear A240
       by_cases c25 : t364.size + t365.size ≤ 9223372036854775807
       ·rw [if_pos c25] at H
        have c25b0 := eq_true c25
        have c25b1 : decide (t364.size + t365.size ≤ 9223372036854775807) = true := decide_eq_true c25
        try have c25b2 : (9223372036854775807 < t364.size + t365.size) = False := eq_false (Nat.not_lt.2 c25)
        (try (have c25b3 := c25b2;simp only [ByteArray.size_append] at c25b3))
        clear c25
        obtain rfl := Option.some.inj H
        try go_wp2
        have n0_ := Aside0.mk (blk_drew BK361.out)
        have n1_ := Aside0.mk (below_drew1 HB.out)
        clear BK361
        clear HB
        have BK361 := n0_
        have HB := n1_
        clear n0_ n1_
        refine start_ (n := 11) (S := fun w'=>w'.cell? ⟨gb361,0,none⟩ = some (.bool a0_0) ∧ w'.cell? ⟨gb361,1,none⟩ = some (.string a0_1) ∧ w'.cell? ⟨gb361,2,none⟩ = some (.int .i64 a0_2) ∧ w'.cell? ⟨gb361,3,none⟩ = some (.int .i64 a0_3)) (ds := []) #[false,false,false,false,false,false,false,false,false,false,false] q9_ rfl rfl ⟨(blk_cell BK361.out 0).trans rfl,(blk_cell BK361.out 1).trans rfl,(blk_cell BK361.out 2).trans rfl,(blk_cell BK361.out 3).trans rfl⟩ (fun hHeld=>?_);refine with_tabW batonref03_one.tab4 batonref03_one.bits4 (fun HT_ HW_=>?_)
        generalize wc.drew = w26 at BK361 HB hHeld ⊢
        refine pure_ (i := 0) (N := some 44) (v := ?_) (a' := ?_) #[true,false,false,false,false,false,false,false,false,false,false] rfl rfl (any_of HT_.out q9_) (fun _ _ _ h=>h) (Or.inl ⟨by rfl,?_⟩) ?_ ?_
        rotate_left
        ·intro w'
         go_simp
         with_reducible rfl
        rotate_left
        ·simp only [Act.put,List.setIfInBounds_toArray,List.set_cons_zero,List.set_cons_succ,i64_w,i32_w]
         rfl
        refine pure_ (i := 6) (N := some 50) (v := ?_) (a' := ?_) #[true,false,false,false,false,false,true,false,false,false,false] rfl rfl (any_of HT_.out q9_) (fun _ _ _ h=>h) (Or.inl ⟨by rfl,?_⟩) ?_ ?_
        rotate_left
        ·intro w'
         go_simp
         with_reducible rfl
        rotate_left
        ·simp only [Act.put,List.setIfInBounds_toArray,List.set_cons_zero,List.set_cons_succ,i64_w,i32_w]
         rfl
        refine take_ (i := 1) (N := some 45) (v := ?_) (a' := ?_) #[true,true,false,false,false,false,true,false,false,false,false] rfl rfl (take_ofW HT_.out HW_.out q9_) (fun _ _ _ h=>h) (Or.inl ⟨by rfl,?_⟩) hHeld ?_ ?_
        rotate_left
        ·rintro w' ⟨s0,s1,s2,s3⟩
         go_simp
         with_reducible rfl
        rotate_left
        ·simp only [Act.put,List.setIfInBounds_toArray,List.set_cons_zero,List.set_cons_succ,i64_w,i32_w]
         rfl
        refine pure_ (i := 2) (N := some 46) (v := ?_) (a' := ?_) #[true,true,true,false,false,false,true,false,false,false,false] rfl rfl (any_of HT_.out q9_) (fun _ _ _ h=>h) (Or.inl ⟨by rfl,?_⟩) ?_ ?_
        rotate_left
        ·intro w'
         go_simp
         with_reducible rfl
        rotate_left
        ·simp only [Act.put,List.setIfInBounds_toArray,List.set_cons_zero,List.set_cons_succ,i64_w,i32_w]
         rfl
        refine pure_ (i := 3) (N := some 47) (v := ?_) (a' := ?_) #[true,true,true,true,false,false,true,false,false,false,false] rfl rfl (any_of HT_.out q9_) (fun _ _ _ h=>h) (Or.inl ⟨by rfl,?_⟩) ?_ ?_
        rotate_left
        ·intro w'
         go_simp
         with_reducible rfl
        rotate_left
        ·simp only [Act.put,List.setIfInBounds_toArray,List.set_cons_zero,List.set_cons_succ,i64_w,i32_w]
         rfl
        refine pure_ (i := 4) (N := some 48) (v := ?_) (a' := ?_) #[true,true,true,true,true,false,true,false,false,false,false] rfl rfl (any_of HT_.out q9_) (fun _ _ _ h=>h) (Or.inl ⟨by rfl,?_⟩) ?_ ?_
        rotate_left
        ·intro w'
         go_simp
         with_reducible rfl
        rotate_left
        ·simp only [Act.put,List.setIfInBounds_toArray,List.set_cons_zero,List.set_cons_succ,i64_w,i32_w]
         rfl
        refine take_ (i := 7) (N := some 51) (v := ?_) (a' := ?_) #[true,true,true,true,true,false,true,true,false,false,false] rfl rfl (take_ofW HT_.out HW_.out q9_) (fun _ _ _ h=>h) (Or.inl ⟨by rfl,?_⟩) hHeld ?_ ?_
        rotate_left
        ·rintro w' ⟨s0,s1,s2,s3⟩
         go_simp
         with_reducible rfl
        rotate_left
        ·simp only [Act.put,List.setIfInBounds_toArray,List.set_cons_zero,List.set_cons_succ,i64_w,i32_w]
         rfl
        refine one_ (i := 5) (N := some 49) #[true,true,true,true,true,true,true,true,false,false,false] rfl rfl (one_of HT_.out q9_) (by decide) (fun K hK=>?_)
        refine goes_ Try.func57 q9_ rfl #[.int .i64 (wrap64 ((wrap64 ((wrap64 (a0_3 - 1)) * 4)) + 2)),.int .i64 1] (by rfl) rfl rfl q0_ ?_
        with_reducible refine (batonref03_bytes.calls kj17 (wrap64 ((wrap64 ((wrap64 (a0_3 - 1)) * 4)) + 2)) 1 t364 _ A23.out).mono ?_
        rintro e w27 ⟨rfl,hb⟩
        refine ⟨_,rfl,?_⟩
        have n0_ := Aside0.mk (blk_below (g := gb361) (o := .cells #[.bool a0_0,.string a0_1,.int .i64 a0_2,.int .i64 a0_3] 72 (0,0)) q35_ hb)
        have n1_ := Aside0.mk (below_step q16_ hb)
        clear BK361
        clear HB
        have BK361 := n0_
        have HB := n1_
        clear n0_ n1_
        (try clear hb)
        (try clear hb2)
        (try clear hk)
        (try clear hi)
        refine hK.out _ _ ⟨(blk_cell BK361.out 0).trans rfl,(blk_cell BK361.out 1).trans rfl,(blk_cell BK361.out 2).trans rfl,(blk_cell BK361.out 3).trans rfl⟩ (fun hHeld=>?_)
        clear hK K
        refine norm_ (a' := ?_) ?_ ?_
        rotate_left
        ·show Act.put _ (some 49) _ = _
         simp only [Act.put,List.setIfInBounds_toArray,List.set_cons_zero,List.set_cons_succ,i64_w,i32_w]
         rfl
        refine one_ (i := 8) (N := some 52) #[true,true,true,true,true,true,true,true,true,false,false] rfl rfl (one_of HT_.out q9_) (by decide) (fun K hK=>?_)
        refine goes_ Try.func57 q9_ rfl #[.int .i64 a0_2,.int .i64 2] (by rfl) rfl rfl q0_ ?_
        with_reducible refine (batonref03_bytes.calls kj17 a0_2 2 t365 _ A24.out).mono ?_
        rintro e w28 ⟨rfl,hb⟩
        refine ⟨_,rfl,?_⟩
        have n0_ := Aside0.mk (blk_below (g := gb361) (o := .cells #[.bool a0_0,.string a0_1,.int .i64 a0_2,.int .i64 a0_3] 72 (0,0)) q35_ hb)
        have n1_ := Aside0.mk (below_step q16_ hb)
        clear BK361
        clear HB
        have BK361 := n0_
        have HB := n1_
        clear n0_ n1_
        (try clear hb)
        (try clear hb2)
        (try clear hk)
        (try clear hi)
        refine hK.out _ _ ⟨(blk_cell BK361.out 0).trans rfl,(blk_cell BK361.out 1).trans rfl,(blk_cell BK361.out 2).trans rfl,(blk_cell BK361.out 3).trans rfl⟩ (fun hHeld=>?_)
        clear hK K
        refine norm_ (a' := ?_) ?_ ?_
        rotate_left
        ·show Act.put _ (some 52) _ = _
         simp only [Act.put,List.setIfInBounds_toArray,List.set_cons_zero,List.set_cons_succ,i64_w,i32_w]
         rfl
        refine pure_ (i := 9) (N := some 53) (v := ?_) (a' := ?_) #[true,true,true,true,true,true,true,true,true,true,false] rfl rfl (any_of HT_.out q9_) (fun _ _ _ h=>h) (Or.inl ⟨by rfl,?_⟩) ?_ ?_
        rotate_left
        ·intro w'
         go_simp
         with_reducible rfl
        rotate_left
        ·simp only [Act.put,List.setIfInBounds_toArray,List.set_cons_zero,List.set_cons_succ,i64_w,i32_w]
         rfl
        refine pure_ (i := 10) (N := some 2) (v := ?_) (a' := ?_) #[true,true,true,true,true,true,true,true,true,true,true] rfl rfl (any_of HT_.out q9_) (fun _ _ _ h=>h) (Or.inl ⟨by rfl,?_⟩) ?_ ?_
        rotate_left
        ·intro w'
         go_simp
         with_reducible rfl
        rotate_left
        ·simp only [Act.put,List.setIfInBounds_toArray,List.set_cons_zero,List.set_cons_succ,i64_w,i32_w]
         rfl
        refine done_ (done_of HT_.out q9_) ?_
        try go_wp2
        go_ret
        exact ⟨q1_,q16_⟩
       ·rw [if_neg c25] at H
        exact absurd H (by simp)
      ·replace c22 := Bool.eq_false_iff.mpr c22
       subst c22
       have H1 : (if a0_0 = true then ((batonref03_bytes.f kj17 (wrap64 ((wrap64 ((wrap64 (a0_3 - 1)) * 4)) + 3)) 1).bind fun t366=>((batonref03_bytes.f kj17 a0_2 4).bind fun t367=>(if t366.size + t367.size ≤ 9223372036854775807 then (some (t366 ++ t367)) else (none)))) else (if (wrap64 ((a0_1.size : Int) - 1)) < 60 then ((batonref03_bytes.f kj17 (wrap64 ((wrap64 ((a0_1.size : Int) - 1)) * 4)) 1).bind fun t368=>(if t368.size + a0_1.size ≤ 9223372036854775807 then (some (t368 ++ a0_1)) else (none))) else (if (wrap64 ((a0_1.size : Int) - 1)) < 256 then ((batonref03_bytes.f kj17 240 1).bind fun t369=>((batonref03_bytes.f kj17 (wrap64 ((a0_1.size : Int) - 1)) 1).bind fun t370=>(if t369.size + t370.size ≤ 9223372036854775807 then (if (t369 ++ t370).size + a0_1.size ≤ 9223372036854775807 then (some ((t369 ++ t370) ++ a0_1)) else (none)) else (none)))) else ((batonref03_bytes.f kj17 244 1).bind fun t371=>((batonref03_bytes.f kj17 (wrap64 ((a0_1.size : Int) - 1)) 2).bind fun t372=>(if t371.size + t372.size ≤ 9223372036854775807 then (if (t371 ++ t372).size + a0_1.size ≤ 9223372036854775807 then (some ((t371 ++ t372) ++ a0_1)) else (none)) else (none))))))) = some r := by rw [if_neg (show ¬ (false = true) by decide)] at H;exact H
       clear H
       have H := H1
       clear H1
       by_cases c29 : a0_0 = true
       ·subst c29
        have H1 : ((batonref03_bytes.f kj17 (wrap64 ((wrap64 ((wrap64 (a0_3 - 1)) * 4)) + 3)) 1).bind fun t366=>((batonref03_bytes.f kj17 a0_2 4).bind fun t367=>(if t366.size + t367.size ≤ 9223372036854775807 then (some (t366 ++ t367)) else (none)))) = some r := by rw [if_pos rfl] at H;exact H
        clear H
        have H := H1
        clear H1
        replace H := Option.bind_eq_some_iff.mp H
        obtain ⟨t366,A300,H⟩ := H
        replace H : ((batonref03_bytes.f kj17 a0_2 4).bind fun t367=>(if t366.size + t367.size ≤ 9223372036854775807 then (some (t366 ++ t367)) else (none))) = some r := H
        have A30 := Aside0.mk A300
        clear A300
        replace H := Option.bind_eq_some_iff.mp H
        obtain ⟨t367,A310,H⟩ := H
        replace H : (if t366.size + t367.size ≤ 9223372036854775807 then (some (t366 ++ t367)) else (none)) = some r := H
        have A31 := Aside0.mk A310
        clear A310
        by_cases c32 : t366.size + t367.size ≤ 9223372036854775807
        ·rw [if_pos c32] at H
         have c32b0 := eq_true c32
         have c32b1 : decide (t366.size + t367.size ≤ 9223372036854775807) = true := decide_eq_true c32
         try have c32b2 : (9223372036854775807 < t366.size + t367.size) = False := eq_false (Nat.not_lt.2 c32)
         (try (have c32b3 := c32b2;simp only [ByteArray.size_append] at c32b3))
         clear c32
         obtain rfl := Option.some.inj H
         have hcz33_0 : wc.cell? ⟨gb361,0,none⟩ = some (.bool true) := (blk_cell BK361.out 0).trans rfl
         have hcz33_1 : wc.cell? ⟨gb361,1,none⟩ = some (.string a0_1) := (blk_cell BK361.out 1).trans rfl
         have hcz33_2 : wc.cell? ⟨gb361,2,none⟩ = some (.int .i64 a0_2) := (blk_cell BK361.out 2).trans rfl
         have hcz33_3 : wc.cell? ⟨gb361,3,none⟩ = some (.int .i64 a0_3) := (blk_cell BK361.out 3).trans rfl
         have hfz33_0 := blk_frozen BK361.out 0
         have hfz33_1 := blk_frozen BK361.out 1
         have hfz33_2 := blk_frozen BK361.out 2
         have hfz33_3 := blk_frozen BK361.out 3
         try go_wp2
         have n0_ := Aside0.mk (blk_drew BK361.out)
         have n1_ := Aside0.mk (below_drew1 HB.out)
         clear BK361
         clear HB
         have BK361 := n0_
         have HB := n1_
         clear n0_ n1_
         refine start_ (n := 11) (S := fun w'=>w'.cell? ⟨gb361,0,none⟩ = some (.bool true) ∧ w'.cell? ⟨gb361,1,none⟩ = some (.string a0_1) ∧ w'.cell? ⟨gb361,2,none⟩ = some (.int .i64 a0_2) ∧ w'.cell? ⟨gb361,3,none⟩ = some (.int .i64 a0_3)) (ds := []) #[false,false,false,false,false,false,false,false,false,false,false] q9_ rfl rfl ⟨(blk_cell BK361.out 0).trans rfl,(blk_cell BK361.out 1).trans rfl,(blk_cell BK361.out 2).trans rfl,(blk_cell BK361.out 3).trans rfl⟩ (fun hHeld=>?_);refine with_tabW batonref03_one.tab6 batonref03_one.bits6 (fun HT_ HW_=>?_)
         generalize wc.drew = w34 at BK361 HB hHeld ⊢
         refine pure_ (i := 0) (N := some 56) (v := ?_) (a' := ?_) #[true,false,false,false,false,false,false,false,false,false,false] rfl rfl (any_of HT_.out q9_) (fun _ _ _ h=>h) (Or.inl ⟨by rfl,?_⟩) ?_ ?_
         rotate_left
         ·intro w'
          go_simp
          with_reducible rfl
         rotate_left
         ·simp only [Act.put,List.setIfInBounds_toArray,List.set_cons_zero,List.set_cons_succ,i64_w,i32_w]
          rfl
         refine pure_ (i := 6) (N := some 62) (v := ?_) (a' := ?_) #[true,false,false,false,false,false,true,false,false,false,false] rfl rfl (any_of HT_.out q9_) (fun _ _ _ h=>h) (Or.inl ⟨by rfl,?_⟩) ?_ ?_
         rotate_left
         ·intro w'
          go_simp
          with_reducible rfl
         rotate_left
         ·simp only [Act.put,List.setIfInBounds_toArray,List.set_cons_zero,List.set_cons_succ,i64_w,i32_w]
          rfl
         refine take_ (i := 1) (N := some 57) (v := ?_) (a' := ?_) #[true,true,false,false,false,false,true,false,false,false,false] rfl rfl (take_ofW HT_.out HW_.out q9_) (fun _ _ _ h=>h) (Or.inl ⟨by rfl,?_⟩) hHeld ?_ ?_
         rotate_left
         ·rintro w' ⟨s0,s1,s2,s3⟩
          go_simp
          with_reducible rfl
         rotate_left
         ·simp only [Act.put,List.setIfInBounds_toArray,List.set_cons_zero,List.set_cons_succ,i64_w,i32_w]
          rfl
         refine pure_ (i := 2) (N := some 58) (v := ?_) (a' := ?_) #[true,true,true,false,false,false,true,false,false,false,false] rfl rfl (any_of HT_.out q9_) (fun _ _ _ h=>h) (Or.inl ⟨by rfl,?_⟩) ?_ ?_
         rotate_left
         ·intro w'
          go_simp
          with_reducible rfl
         rotate_left
         ·simp only [Act.put,List.setIfInBounds_toArray,List.set_cons_zero,List.set_cons_succ,i64_w,i32_w]
          rfl
         refine pure_ (i := 3) (N := some 59) (v := ?_) (a' := ?_) #[true,true,true,true,false,false,true,false,false,false,false] rfl rfl (any_of HT_.out q9_) (fun _ _ _ h=>h) (Or.inl ⟨by rfl,?_⟩) ?_ ?_
         rotate_left
         ·intro w'
          go_simp
          with_reducible rfl
         rotate_left
         ·simp only [Act.put,List.setIfInBounds_toArray,List.set_cons_zero,List.set_cons_succ,i64_w,i32_w]
          rfl
         refine pure_ (i := 4) (N := some 60) (v := ?_) (a' := ?_) #[true,true,true,true,true,false,true,false,false,false,false] rfl rfl (any_of HT_.out q9_) (fun _ _ _ h=>h) (Or.inl ⟨by rfl,?_⟩) ?_ ?_
         rotate_left
         ·intro w'
          go_simp
          with_reducible rfl
         rotate_left
         ·simp only [Act.put,List.setIfInBounds_toArray,List.set_cons_zero,List.set_cons_succ,i64_w,i32_w]
          rfl
         refine take_ (i := 7) (N := some 63) (v := ?_) (a' := ?_) #[true,true,true,true,true,false,true,true,false,false,false] rfl rfl (take_ofW HT_.out HW_.out q9_) (fun _ _ _ h=>h) (Or.inl ⟨by rfl,?_⟩) hHeld ?_ ?_
         rotate_left
         ·rintro w' ⟨s0,s1,s2,s3⟩
          go_simp
          with_reducible rfl
         rotate_left
         ·simp only [Act.put,List.setIfInBounds_toArray,List.set_cons_zero,List.set_cons_succ,i64_w,i32_w]
          rfl
         refine one_ (i := 5) (N := some 61) #[true,true,true,true,true,true,true,true,false,false,false] rfl rfl (one_of HT_.out q9_) (by decide) (fun K hK=>?_)
         refine goes_ Try.func57 q9_ rfl #[.int .i64 (wrap64 ((wrap64 ((wrap64 (a0_3 - 1)) * 4)) + 3)),.int .i64 1] (by rfl) rfl rfl q0_ ?_
         with_reducible refine (batonref03_bytes.calls kj17 (wrap64 ((wrap64 ((wrap64 (a0_3 - 1)) * 4)) + 3)) 1 t366 _ A30.out).mono ?_
         rintro e w35 ⟨rfl,hb⟩
         refine ⟨_,rfl,?_⟩
         have n0_ := Aside0.mk (blk_below (g := gb361) (o := .cells #[.bool true,.string a0_1,.int .i64 a0_2,.int .i64 a0_3] 72 (0,0)) q35_ hb)
         have n1_ := Aside0.mk (below_step q16_ hb)
         clear BK361
         clear HB
         have BK361 := n0_
         have HB := n1_
         clear n0_ n1_
         (try clear hb)
         (try clear hb2)
         (try clear hk)
         (try clear hi)
         refine hK.out _ _ ⟨(blk_cell BK361.out 0).trans rfl,(blk_cell BK361.out 1).trans rfl,(blk_cell BK361.out 2).trans rfl,(blk_cell BK361.out 3).trans rfl⟩ (fun hHeld=>?_)
         clear hK K
         refine norm_ (a' := ?_) ?_ ?_
         rotate_left
         ·show Act.put _ (some 61) _ = _
          simp only [Act.put,List.setIfInBounds_toArray,List.set_cons_zero,List.set_cons_succ,i64_w,i32_w]
          rfl
         refine one_ (i := 8) (N := some 64) #[true,true,true,true,true,true,true,true,true,false,false] rfl rfl (one_of HT_.out q9_) (by decide) (fun K hK=>?_)
         refine goes_ Try.func57 q9_ rfl #[.int .i64 a0_2,.int .i64 4] (by rfl) rfl rfl q0_ ?_
         with_reducible refine (batonref03_bytes.calls kj17 a0_2 4 t367 _ A31.out).mono ?_
         rintro e w36 ⟨rfl,hb⟩
         refine ⟨_,rfl,?_⟩
         have n0_ := Aside0.mk (blk_below (g := gb361) (o := .cells #[.bool true,.string a0_1,.int .i64 a0_2,.int .i64 a0_3] 72 (0,0)) q35_ hb)
         have n1_ := Aside0.mk (below_step q16_ hb)
         clear BK361
         clear HB
         have BK361 := n0_
         have HB := n1_
         clear n0_ n1_
         (try clear hb)
         (try clear hb2)
         (try clear hk)
         (try clear hi)
         refine hK.out _ _ ⟨(blk_cell BK361.out 0).trans rfl,(blk_cell BK361.out 1).trans rfl,(blk_cell BK361.out 2).trans rfl,(blk_cell BK361.out 3).trans rfl⟩ (fun hHeld=>?_)
         clear hK K
         refine norm_ (a' := ?_) ?_ ?_
         rotate_left
         ·show Act.put _ (some 64) _ = _
          simp only [Act.put,List.setIfInBounds_toArray,List.set_cons_zero,List.set_cons_succ,i64_w,i32_w]
          rfl
         refine pure_ (i := 9) (N := some 65) (v := ?_) (a' := ?_) #[true,true,true,true,true,true,true,true,true,true,false] rfl rfl (any_of HT_.out q9_) (fun _ _ _ h=>h) (Or.inl ⟨by rfl,?_⟩) ?_ ?_
         rotate_left
         ·intro w'
          go_simp
          with_reducible rfl
         rotate_left
         ·simp only [Act.put,List.setIfInBounds_toArray,List.set_cons_zero,List.set_cons_succ,i64_w,i32_w]
          rfl
         refine pure_ (i := 10) (N := some 2) (v := ?_) (a' := ?_) #[true,true,true,true,true,true,true,true,true,true,true] rfl rfl (any_of HT_.out q9_) (fun _ _ _ h=>h) (Or.inl ⟨by rfl,?_⟩) ?_ ?_
         rotate_left
         ·intro w'
          go_simp
          with_reducible rfl
         rotate_left
         ·simp only [Act.put,List.setIfInBounds_toArray,List.set_cons_zero,List.set_cons_succ,i64_w,i32_w]
          rfl
         refine done_ (done_of HT_.out q9_) ?_
         try go_wp2
         go_ret
         exact ⟨q1_,q16_⟩
        ·rw [if_neg c32] at H
         exact absurd H (by simp)
       ·replace c29 := Bool.eq_false_iff.mpr c29
        subst c29
        have H1 : (if (wrap64 ((a0_1.size : Int) - 1)) < 60 then ((batonref03_bytes.f kj17 (wrap64 ((wrap64 ((a0_1.size : Int) - 1)) * 4)) 1).bind fun t368=>(if t368.size + a0_1.size ≤ 9223372036854775807 then (some (t368 ++ a0_1)) else (none))) else (if (wrap64 ((a0_1.size : Int) - 1)) < 256 then ((batonref03_bytes.f kj17 240 1).bind fun t369=>((batonref03_bytes.f kj17 (wrap64 ((a0_1.size : Int) - 1)) 1).bind fun t370=>(if t369.size + t370.size ≤ 9223372036854775807 then (if (t369 ++ t370).size + a0_1.size ≤ 9223372036854775807 then (some ((t369 ++ t370) ++ a0_1)) else (none)) else (none)))) else ((batonref03_bytes.f kj17 244 1).bind fun t371=>((batonref03_bytes.f kj17 (wrap64 ((a0_1.size : Int) - 1)) 2).bind fun t372=>(if t371.size + t372.size ≤ 9223372036854775807 then (if (t371 ++ t372).size + a0_1.size ≤ 9223372036854775807 then (some ((t371 ++ t372) ++ a0_1)) else (none)) else (none)))))) = some r := by rw [if_neg (show ¬ (false = true) by decide)] at H;exact H
        clear H
        have H := H1
        clear H1
        by_cases c37 : (wrap64 ((a0_1.size : Int) - 1)) < 60
        ·rw [if_pos c37] at H
         have c37b0 : decide ((wrap64 ((a0_1.size : Int) - 1)) < 60) = true := decide_eq_true c37
         clear c37
         replace H := Option.bind_eq_some_iff.mp H
         obtain ⟨t368,A380,H⟩ := H
         replace H : (if t368.size + a0_1.size ≤ 9223372036854775807 then (some (t368 ++ a0_1)) else (none)) = some r := H
         have A38 := Aside0.mk A380
         clear A380
         by_cases c39 : t368.size + a0_1.size ≤ 9223372036854775807
         ·rw [if_pos c39] at H
          have c39b0 := eq_true c39
          have c39b1 : decide (t368.size + a0_1.size ≤ 9223372036854775807) = true := decide_eq_true c39
          try have c39b2 : (9223372036854775807 < t368.size + a0_1.size) = False := eq_false (Nat.not_lt.2 c39)
          (try (have c39b3 := c39b2;simp only [ByteArray.size_append] at c39b3))
          clear c39
          obtain rfl := Option.some.inj H
          have hcz40_0 : wc.cell? ⟨gb361,0,none⟩ = some (.bool false) := (blk_cell BK361.out 0).trans rfl
          have hcz40_1 : wc.cell? ⟨gb361,1,none⟩ = some (.string a0_1) := (blk_cell BK361.out 1).trans rfl
          have hcz40_2 : wc.cell? ⟨gb361,2,none⟩ = some (.int .i64 a0_2) := (blk_cell BK361.out 2).trans rfl
          have hcz40_3 : wc.cell? ⟨gb361,3,none⟩ = some (.int .i64 a0_3) := (blk_cell BK361.out 3).trans rfl
          have hfz40_0 := blk_frozen BK361.out 0
          have hfz40_1 := blk_frozen BK361.out 1
          have hfz40_2 := blk_frozen BK361.out 2
          have hfz40_3 := blk_frozen BK361.out 3
          try go_wp2
          have n0_ := Aside0.mk (blk_drew BK361.out)
          have n1_ := Aside0.mk (below_drew1 HB.out)
          clear BK361
          clear HB
          have BK361 := n0_
          have HB := n1_
          clear n0_ n1_
          refine start_ (n := 7) (S := fun w'=>w'.cell? ⟨gb361,0,none⟩ = some (.bool false) ∧ w'.cell? ⟨gb361,1,none⟩ = some (.string a0_1) ∧ w'.cell? ⟨gb361,2,none⟩ = some (.int .i64 a0_2) ∧ w'.cell? ⟨gb361,3,none⟩ = some (.int .i64 a0_3)) (ds := []) #[false,false,false,false,false,false,false] q9_ rfl rfl ⟨(blk_cell BK361.out 0).trans rfl,(blk_cell BK361.out 1).trans rfl,(blk_cell BK361.out 2).trans rfl,(blk_cell BK361.out 3).trans rfl⟩ (fun hHeld=>?_)
          generalize wc.drew = w41 at BK361 HB hHeld ⊢
          refine pure_ (i := 0) (N := some 72) (v := ?_) (a' := ?_) #[true,false,false,false,false,false,false] rfl rfl q9_ (fun _ _ _ h=>h) (Or.inl ⟨by rfl,?_⟩) ?_ ?_
          rotate_left
          ·intro w'
           go_simp
           with_reducible rfl
          rotate_left
          ·simp only [Act.put,List.setIfInBounds_toArray,List.set_cons_zero,List.set_cons_succ,i64_w,i32_w]
           rfl
          refine pure_ (i := 1) (N := some 73) (v := ?_) (a' := ?_) #[true,true,false,false,false,false,false] rfl rfl q9_ (fun _ _ _ h=>h) (Or.inl ⟨by rfl,?_⟩) ?_ ?_
          rotate_left
          ·intro w'
           go_simp
           with_reducible rfl
          rotate_left
          ·simp only [Act.put,List.setIfInBounds_toArray,List.set_cons_zero,List.set_cons_succ,i64_w,i32_w]
           rfl
          refine pure_ (i := 3) (N := some 75) (v := ?_) (a' := ?_) #[true,true,false,true,false,false,false] rfl rfl q9_ (fun _ _ _ h=>h) (Or.inl ⟨by rfl,?_⟩) ?_ ?_
          rotate_left
          ·intro w'
           go_simp
           with_reducible rfl
          rotate_left
          ·simp only [Act.put,List.setIfInBounds_toArray,List.set_cons_zero,List.set_cons_succ,i64_w,i32_w]
           rfl
          refine take_ (i := 4) (N := some 76) (v := ?_) (a' := ?_) #[true,true,false,true,true,false,false] rfl rfl q9_ (fun _ _ _ h=>h) (Or.inl ⟨by rfl,?_⟩) hHeld ?_ ?_
          rotate_left
          ·rintro w' ⟨s0,s1,s2,s3⟩
           go_simp
           with_reducible rfl
          rotate_left
          ·simp only [Act.put,List.setIfInBounds_toArray,List.set_cons_zero,List.set_cons_succ,i64_w,i32_w]
           rfl
          refine one_ (i := 2) (N := some 74) #[true,true,true,true,true,false,false] rfl rfl q9_ (by decide) (fun K hK=>?_)
          refine goes_ Try.func57 q9_ rfl #[.int .i64 (wrap64 ((wrap64 ((a0_1.size : Int) - 1)) * 4)),.int .i64 1] (by rfl) rfl rfl q0_ ?_
          with_reducible refine (batonref03_bytes.calls kj17 (wrap64 ((wrap64 ((a0_1.size : Int) - 1)) * 4)) 1 t368 _ A38.out).mono ?_
          rintro e w42 ⟨rfl,hb⟩
          refine ⟨_,rfl,?_⟩
          have n0_ := Aside0.mk (blk_below (g := gb361) (o := .cells #[.bool false,.string a0_1,.int .i64 a0_2,.int .i64 a0_3] 72 (0,0)) q35_ hb)
          have n1_ := Aside0.mk (below_step q16_ hb)
          clear BK361
          clear HB
          have BK361 := n0_
          have HB := n1_
          clear n0_ n1_
          (try clear hb)
          (try clear hb2)
          (try clear hk)
          (try clear hi)
          refine hK.out _ _ ⟨(blk_cell BK361.out 0).trans rfl,(blk_cell BK361.out 1).trans rfl,(blk_cell BK361.out 2).trans rfl,(blk_cell BK361.out 3).trans rfl⟩ (fun hHeld=>?_)
          clear hK K
          refine norm_ (a' := ?_) ?_ ?_
          rotate_left
          ·show Act.put _ (some 74) _ = _
           simp only [Act.put,List.setIfInBounds_toArray,List.set_cons_zero,List.set_cons_succ,i64_w,i32_w]
           rfl
          refine pure_ (i := 5) (N := some 77) (v := ?_) (a' := ?_) #[true,true,true,true,true,true,false] rfl rfl q9_ (fun _ _ _ h=>h) (Or.inl ⟨by rfl,?_⟩) ?_ ?_
          rotate_left
          ·intro w'
           go_simp
           with_reducible rfl
          rotate_left
          ·simp only [Act.put,List.setIfInBounds_toArray,List.set_cons_zero,List.set_cons_succ,i64_w,i32_w]
           rfl
          refine pure_ (i := 6) (N := some 2) (v := ?_) (a' := ?_) #[true,true,true,true,true,true,true] rfl rfl q9_ (fun _ _ _ h=>h) (Or.inl ⟨by rfl,?_⟩) ?_ ?_
          rotate_left
          ·intro w'
           go_simp
           with_reducible rfl
          rotate_left
          ·simp only [Act.put,List.setIfInBounds_toArray,List.set_cons_zero,List.set_cons_succ,i64_w,i32_w]
           rfl
          refine done_ q9_ ?_
          try go_wp2
          go_ret
          exact ⟨q1_,q16_⟩
         ·rw [if_neg c39] at H
          exact absurd H (by simp)
        ·rw [if_neg c37] at H
         have c37b0 : decide ((wrap64 ((a0_1.size : Int) - 1)) < 60) = false := decide_eq_false c37
         clear c37
         by_cases c43 : (wrap64 ((a0_1.size : Int) - 1)) < 256
         ·rw [if_pos c43] at H
          have c43b0 : decide ((wrap64 ((a0_1.size : Int) - 1)) < 256) = true := decide_eq_true c43
          clear c43
          replace H := Option.bind_eq_some_iff.mp H
          obtain ⟨t369,A440,H⟩ := H
          replace H : ((batonref03_bytes.f kj17 (wrap64 ((a0_1.size : Int) - 1)) 1).bind fun t370=>(if t369.size + t370.size ≤ 9223372036854775807 then (if (t369 ++ t370).size + a0_1.size ≤ 9223372036854775807 then (some ((t369 ++ t370) ++ a0_1)) else (none)) else (none))) = some r := H
          have A44 := Aside0.mk A440
          clear A440
          replace H := Option.bind_eq_some_iff.mp H
          obtain ⟨t370,A450,H⟩ := H
          replace H : (if t369.size + t370.size ≤ 9223372036854775807 then (if (t369 ++ t370).size + a0_1.size ≤ 9223372036854775807 then (some ((t369 ++ t370) ++ a0_1)) else (none)) else (none)) = some r := H
          have A45 := Aside0.mk A450
          clear A450
          by_cases c46 : t369.size + t370.size ≤ 9223372036854775807
          ·rw [if_pos c46] at H
           have c46b0 := eq_true c46
           have c46b1 : decide (t369.size + t370.size ≤ 9223372036854775807) = true := decide_eq_true c46
           try have c46b2 : (9223372036854775807 < t369.size + t370.size) = False := eq_false (Nat.not_lt.2 c46)
           (try (have c46b3 := c46b2;simp only [ByteArray.size_append] at c46b3))
           clear c46
           by_cases c47 : (t369 ++ t370).size + a0_1.size ≤ 9223372036854775807
           ·rw [if_pos c47] at H
            have c47b0 := eq_true c47
            have c47b1 : decide ((t369 ++ t370).size + a0_1.size ≤ 9223372036854775807) = true := decide_eq_true c47
            try have c47b2 : (9223372036854775807 < (t369 ++ t370).size + a0_1.size) = False := eq_false (Nat.not_lt.2 c47)
            (try (have c47b3 := c47b2;simp only [ByteArray.size_append] at c47b3))
            clear c47
            obtain rfl := Option.some.inj H
            have hcz48_0 : wc.cell? ⟨gb361,0,none⟩ = some (.bool false) := (blk_cell BK361.out 0).trans rfl
            have hcz48_1 : wc.cell? ⟨gb361,1,none⟩ = some (.string a0_1) := (blk_cell BK361.out 1).trans rfl
            have hcz48_2 : wc.cell? ⟨gb361,2,none⟩ = some (.int .i64 a0_2) := (blk_cell BK361.out 2).trans rfl
            have hcz48_3 : wc.cell? ⟨gb361,3,none⟩ = some (.int .i64 a0_3) := (blk_cell BK361.out 3).trans rfl
            have hfz48_0 := blk_frozen BK361.out 0
            have hfz48_1 := blk_frozen BK361.out 1
            have hfz48_2 := blk_frozen BK361.out 2
            have hfz48_3 := blk_frozen BK361.out 3
            try go_wp2
            have n0_ := Aside0.mk (blk_drew BK361.out)
            have n1_ := Aside0.mk (below_drew1 HB.out)
            clear BK361
            clear HB
            have BK361 := n0_
            have HB := n1_
            clear n0_ n1_
            refine start_ (n := 8) (S := fun w'=>w'.cell? ⟨gb361,0,none⟩ = some (.bool false) ∧ w'.cell? ⟨gb361,1,none⟩ = some (.string a0_1) ∧ w'.cell? ⟨gb361,2,none⟩ = some (.int .i64 a0_2) ∧ w'.cell? ⟨gb361,3,none⟩ = some (.int .i64 a0_3)) (ds := []) #[false,false,false,false,false,false,false,false] q9_ rfl rfl ⟨(blk_cell BK361.out 0).trans rfl,(blk_cell BK361.out 1).trans rfl,(blk_cell BK361.out 2).trans rfl,(blk_cell BK361.out 3).trans rfl⟩ (fun hHeld=>?_);refine with_tabW batonref03_one.tab11 batonref03_one.bits11 (fun HT_ HW_=>?_)
            generalize wc.drew = w49 at BK361 HB hHeld ⊢
            refine pure_ (i := 1) (N := some 81) (v := ?_) (a' := ?_) #[false,true,false,false,false,false,false,false] rfl rfl (any_of HT_.out q9_) (fun _ _ _ h=>h) (Or.inl ⟨by rfl,?_⟩) ?_ ?_
            rotate_left
            ·intro w'
             go_simp
             with_reducible rfl
            rotate_left
            ·simp only [Act.put,List.setIfInBounds_toArray,List.set_cons_zero,List.set_cons_succ,i64_w,i32_w]
             rfl
            refine pure_ (i := 4) (N := some 84) (v := ?_) (a' := ?_) #[false,true,false,false,true,false,false,false] rfl rfl (any_of HT_.out q9_) (fun _ _ _ h=>h) (Or.inl ⟨by rfl,?_⟩) ?_ ?_
            rotate_left
            ·intro w'
             go_simp
             with_reducible rfl
            rotate_left
            ·simp only [Act.put,List.setIfInBounds_toArray,List.set_cons_zero,List.set_cons_succ,i64_w,i32_w]
             rfl
            refine take_ (i := 5) (N := some 85) (v := ?_) (a' := ?_) #[false,true,false,false,true,true,false,false] rfl rfl (take_ofW HT_.out HW_.out q9_) (fun _ _ _ h=>h) (Or.inl ⟨by rfl,?_⟩) hHeld ?_ ?_
            rotate_left
            ·rintro w' ⟨s0,s1,s2,s3⟩
             go_simp
             with_reducible rfl
            rotate_left
            ·simp only [Act.put,List.setIfInBounds_toArray,List.set_cons_zero,List.set_cons_succ,i64_w,i32_w]
             rfl
            refine one_ (i := 0) (N := some 80) #[true,true,false,false,true,true,false,false] rfl rfl (one_of HT_.out q9_) (by decide) (fun K hK=>?_)
            refine goes_ Try.func57 q9_ rfl #[.int .i64 240,.int .i64 1] (by rfl) rfl rfl q0_ ?_
            with_reducible refine (batonref03_bytes.calls kj17 240 1 t369 _ A44.out).mono ?_
            rintro e w50 ⟨rfl,hb⟩
            refine ⟨_,rfl,?_⟩
            have n0_ := Aside0.mk (blk_below (g := gb361) (o := .cells #[.bool false,.string a0_1,.int .i64 a0_2,.int .i64 a0_3] 72 (0,0)) q35_ hb)
            have n1_ := Aside0.mk (below_step q16_ hb)
            clear BK361
            clear HB
            have BK361 := n0_
            have HB := n1_
            clear n0_ n1_
            (try clear hb)
            (try clear hb2)
            (try clear hk)
            (try clear hi)
            refine hK.out _ _ ⟨(blk_cell BK361.out 0).trans rfl,(blk_cell BK361.out 1).trans rfl,(blk_cell BK361.out 2).trans rfl,(blk_cell BK361.out 3).trans rfl⟩ (fun hHeld=>?_)
            clear hK K
            refine norm_ (a' := ?_) ?_ ?_
            rotate_left
            ·show Act.put _ (some 80) _ = _
             simp only [Act.put,List.setIfInBounds_toArray,List.set_cons_zero,List.set_cons_succ,i64_w,i32_w]
             rfl
            refine one_ (i := 2) (N := some 82) #[true,true,true,false,true,true,false,false] rfl rfl (one_of HT_.out q9_) (by decide) (fun K hK=>?_)
            refine goes_ Try.func57 q9_ rfl #[.int .i64 (wrap64 ((a0_1.size : Int) - 1)),.int .i64 1] (by rfl) rfl rfl q0_ ?_
            with_reducible refine (batonref03_bytes.calls kj17 (wrap64 ((a0_1.size : Int) - 1)) 1 t370 _ A45.out).mono ?_
            rintro e w51 ⟨rfl,hb⟩
            refine ⟨_,rfl,?_⟩
            have n0_ := Aside0.mk (blk_below (g := gb361) (o := .cells #[.bool false,.string a0_1,.int .i64 a0_2,.int .i64 a0_3] 72 (0,0)) q35_ hb)
            have n1_ := Aside0.mk (below_step q16_ hb)
            clear BK361
            clear HB
            have BK361 := n0_
            have HB := n1_
            clear n0_ n1_
            (try clear hb)
            (try clear hb2)
            (try clear hk)
            (try clear hi)
            refine hK.out _ _ ⟨(blk_cell BK361.out 0).trans rfl,(blk_cell BK361.out 1).trans rfl,(blk_cell BK361.out 2).trans rfl,(blk_cell BK361.out 3).trans rfl⟩ (fun hHeld=>?_)
            clear hK K
            refine norm_ (a' := ?_) ?_ ?_
            rotate_left
            ·show Act.put _ (some 82) _ = _
             simp only [Act.put,List.setIfInBounds_toArray,List.set_cons_zero,List.set_cons_succ,i64_w,i32_w]
             rfl
            refine pure_ (i := 3) (N := some 83) (v := ?_) (a' := ?_) #[true,true,true,true,true,true,false,false] rfl rfl (any_of HT_.out q9_) (fun _ _ _ h=>h) (Or.inl ⟨by rfl,?_⟩) ?_ ?_
            rotate_left
            ·intro w'
             go_simp
             with_reducible rfl
            rotate_left
            ·simp only [Act.put,List.setIfInBounds_toArray,List.set_cons_zero,List.set_cons_succ,i64_w,i32_w]
             rfl
            refine pure_ (i := 6) (N := some 86) (v := ?_) (a' := ?_) #[true,true,true,true,true,true,true,false] rfl rfl (any_of HT_.out q9_) (fun _ _ _ h=>h) (Or.inl ⟨by rfl,?_⟩) ?_ ?_
            rotate_left
            ·intro w'
             go_simp
             with_reducible rfl
            rotate_left
            ·simp only [Act.put,List.setIfInBounds_toArray,List.set_cons_zero,List.set_cons_succ,i64_w,i32_w]
             rfl
            refine pure_ (i := 7) (N := some 2) (v := ?_) (a' := ?_) #[true,true,true,true,true,true,true,true] rfl rfl (any_of HT_.out q9_) (fun _ _ _ h=>h) (Or.inl ⟨by rfl,?_⟩) ?_ ?_
            rotate_left
            ·intro w'
             go_simp
             with_reducible rfl
            rotate_left
            ·simp only [Act.put,List.setIfInBounds_toArray,List.set_cons_zero,List.set_cons_succ,i64_w,i32_w]
             rfl
            refine done_ (done_of HT_.out q9_) ?_
            try go_wp2
            go_ret
            exact ⟨q1_,q16_⟩
           ·rw [if_neg c47] at H
            exact absurd H (by simp)
          ·rw [if_neg c46] at H
           exact absurd H (by simp)
         ·rw [if_neg c43] at H
          have c43b0 : decide ((wrap64 ((a0_1.size : Int) - 1)) < 256) = false := decide_eq_false c43
          clear c43
          replace H := Option.bind_eq_some_iff.mp H
          obtain ⟨t371,A520,H⟩ := H
          replace H : ((batonref03_bytes.f kj17 (wrap64 ((a0_1.size : Int) - 1)) 2).bind fun t372=>(if t371.size + t372.size ≤ 9223372036854775807 then (if (t371 ++ t372).size + a0_1.size ≤ 9223372036854775807 then (some ((t371 ++ t372) ++ a0_1)) else (none)) else (none))) = some r := H
          have A52 := Aside0.mk A520
          clear A520
          replace H := Option.bind_eq_some_iff.mp H
          obtain ⟨t372,A530,H⟩ := H
          replace H : (if t371.size + t372.size ≤ 9223372036854775807 then (if (t371 ++ t372).size + a0_1.size ≤ 9223372036854775807 then (some ((t371 ++ t372) ++ a0_1)) else (none)) else (none)) = some r := H
          have A53 := Aside0.mk A530
          clear A530
          by_cases c54 : t371.size + t372.size ≤ 9223372036854775807
          ·rw [if_pos c54] at H
           have c54b0 := eq_true c54
           have c54b1 : decide (t371.size + t372.size ≤ 9223372036854775807) = true := decide_eq_true c54
           try have c54b2 : (9223372036854775807 < t371.size + t372.size) = False := eq_false (Nat.not_lt.2 c54)
           (try (have c54b3 := c54b2;simp only [ByteArray.size_append] at c54b3))
           clear c54
           by_cases c55 : (t371 ++ t372).size + a0_1.size ≤ 9223372036854775807
           ·rw [if_pos c55] at H
            have c55b0 := eq_true c55
            have c55b1 : decide ((t371 ++ t372).size + a0_1.size ≤ 9223372036854775807) = true := decide_eq_true c55
            try have c55b2 : (9223372036854775807 < (t371 ++ t372).size + a0_1.size) = False := eq_false (Nat.not_lt.2 c55)
            (try (have c55b3 := c55b2;simp only [ByteArray.size_append] at c55b3))
            clear c55
            obtain rfl := Option.some.inj H
            have hcz56_0 : wc.cell? ⟨gb361,0,none⟩ = some (.bool false) := (blk_cell BK361.out 0).trans rfl
            have hcz56_1 : wc.cell? ⟨gb361,1,none⟩ = some (.string a0_1) := (blk_cell BK361.out 1).trans rfl
            have hcz56_2 : wc.cell? ⟨gb361,2,none⟩ = some (.int .i64 a0_2) := (blk_cell BK361.out 2).trans rfl
            have hcz56_3 : wc.cell? ⟨gb361,3,none⟩ = some (.int .i64 a0_3) := (blk_cell BK361.out 3).trans rfl
            have hfz56_0 := blk_frozen BK361.out 0
            have hfz56_1 := blk_frozen BK361.out 1
            have hfz56_2 := blk_frozen BK361.out 2
            have hfz56_3 := blk_frozen BK361.out 3
            try go_wp2
            have n0_ := Aside0.mk (blk_drew BK361.out)
            have n1_ := Aside0.mk (below_drew1 HB.out)
            clear BK361
            clear HB
            have BK361 := n0_
            have HB := n1_
            clear n0_ n1_
            refine start_ (n := 8) (S := fun w'=>w'.cell? ⟨gb361,0,none⟩ = some (.bool false) ∧ w'.cell? ⟨gb361,1,none⟩ = some (.string a0_1) ∧ w'.cell? ⟨gb361,2,none⟩ = some (.int .i64 a0_2) ∧ w'.cell? ⟨gb361,3,none⟩ = some (.int .i64 a0_3)) (ds := []) #[false,false,false,false,false,false,false,false] q9_ rfl rfl ⟨(blk_cell BK361.out 0).trans rfl,(blk_cell BK361.out 1).trans rfl,(blk_cell BK361.out 2).trans rfl,(blk_cell BK361.out 3).trans rfl⟩ (fun hHeld=>?_);refine with_tabW batonref03_one.tab12 batonref03_one.bits12 (fun HT_ HW_=>?_)
            generalize wc.drew = w57 at BK361 HB hHeld ⊢
            refine pure_ (i := 1) (N := some 88) (v := ?_) (a' := ?_) #[false,true,false,false,false,false,false,false] rfl rfl (any_of HT_.out q9_) (fun _ _ _ h=>h) (Or.inl ⟨by rfl,?_⟩) ?_ ?_
            rotate_left
            ·intro w'
             go_simp
             with_reducible rfl
            rotate_left
            ·simp only [Act.put,List.setIfInBounds_toArray,List.set_cons_zero,List.set_cons_succ,i64_w,i32_w]
             rfl
            refine pure_ (i := 4) (N := some 91) (v := ?_) (a' := ?_) #[false,true,false,false,true,false,false,false] rfl rfl (any_of HT_.out q9_) (fun _ _ _ h=>h) (Or.inl ⟨by rfl,?_⟩) ?_ ?_
            rotate_left
            ·intro w'
             go_simp
             with_reducible rfl
            rotate_left
            ·simp only [Act.put,List.setIfInBounds_toArray,List.set_cons_zero,List.set_cons_succ,i64_w,i32_w]
             rfl
            refine take_ (i := 5) (N := some 92) (v := ?_) (a' := ?_) #[false,true,false,false,true,true,false,false] rfl rfl (take_ofW HT_.out HW_.out q9_) (fun _ _ _ h=>h) (Or.inl ⟨by rfl,?_⟩) hHeld ?_ ?_
            rotate_left
            ·rintro w' ⟨s0,s1,s2,s3⟩
             go_simp
             with_reducible rfl
            rotate_left
            ·simp only [Act.put,List.setIfInBounds_toArray,List.set_cons_zero,List.set_cons_succ,i64_w,i32_w]
             rfl
            refine one_ (i := 0) (N := some 87) #[true,true,false,false,true,true,false,false] rfl rfl (one_of HT_.out q9_) (by decide) (fun K hK=>?_)
            refine goes_ Try.func57 q9_ rfl #[.int .i64 244,.int .i64 1] (by rfl) rfl rfl q0_ ?_
            with_reducible refine (batonref03_bytes.calls kj17 244 1 t371 _ A52.out).mono ?_
            rintro e w58 ⟨rfl,hb⟩
            refine ⟨_,rfl,?_⟩
            have n0_ := Aside0.mk (blk_below (g := gb361) (o := .cells #[.bool false,.string a0_1,.int .i64 a0_2,.int .i64 a0_3] 72 (0,0)) q35_ hb)
            have n1_ := Aside0.mk (below_step q16_ hb)
            clear BK361
            clear HB
            have BK361 := n0_
            have HB := n1_
            clear n0_ n1_
            (try clear hb)
            (try clear hb2)
            (try clear hk)
            (try clear hi)
            refine hK.out _ _ ⟨(blk_cell BK361.out 0).trans rfl,(blk_cell BK361.out 1).trans rfl,(blk_cell BK361.out 2).trans rfl,(blk_cell BK361.out 3).trans rfl⟩ (fun hHeld=>?_)
            clear hK K
            refine norm_ (a' := ?_) ?_ ?_
            rotate_left
            ·show Act.put _ (some 87) _ = _
             simp only [Act.put,List.setIfInBounds_toArray,List.set_cons_zero,List.set_cons_succ,i64_w,i32_w]
             rfl
            refine one_ (i := 2) (N := some 89) #[true,true,true,false,true,true,false,false] rfl rfl (one_of HT_.out q9_) (by decide) (fun K hK=>?_)
            refine goes_ Try.func57 q9_ rfl #[.int .i64 (wrap64 ((a0_1.size : Int) - 1)),.int .i64 2] (by rfl) rfl rfl q0_ ?_
            with_reducible refine (batonref03_bytes.calls kj17 (wrap64 ((a0_1.size : Int) - 1)) 2 t372 _ A53.out).mono ?_
            rintro e w59 ⟨rfl,hb⟩
            refine ⟨_,rfl,?_⟩
            have n0_ := Aside0.mk (blk_below (g := gb361) (o := .cells #[.bool false,.string a0_1,.int .i64 a0_2,.int .i64 a0_3] 72 (0,0)) q35_ hb)
            have n1_ := Aside0.mk (below_step q16_ hb)
            clear BK361
            clear HB
            have BK361 := n0_
            have HB := n1_
            clear n0_ n1_
            (try clear hb)
            (try clear hb2)
            (try clear hk)
            (try clear hi)
            refine hK.out _ _ ⟨(blk_cell BK361.out 0).trans rfl,(blk_cell BK361.out 1).trans rfl,(blk_cell BK361.out 2).trans rfl,(blk_cell BK361.out 3).trans rfl⟩ (fun hHeld=>?_)
            clear hK K
            refine norm_ (a' := ?_) ?_ ?_
            rotate_left
            ·show Act.put _ (some 89) _ = _
             simp only [Act.put,List.setIfInBounds_toArray,List.set_cons_zero,List.set_cons_succ,i64_w,i32_w]
             rfl
            refine pure_ (i := 3) (N := some 90) (v := ?_) (a' := ?_) #[true,true,true,true,true,true,false,false] rfl rfl (any_of HT_.out q9_) (fun _ _ _ h=>h) (Or.inl ⟨by rfl,?_⟩) ?_ ?_
            rotate_left
            ·intro w'
             go_simp
             with_reducible rfl
            rotate_left
            ·simp only [Act.put,List.setIfInBounds_toArray,List.set_cons_zero,List.set_cons_succ,i64_w,i32_w]
             rfl
            refine pure_ (i := 6) (N := some 93) (v := ?_) (a' := ?_) #[true,true,true,true,true,true,true,false] rfl rfl (any_of HT_.out q9_) (fun _ _ _ h=>h) (Or.inl ⟨by rfl,?_⟩) ?_ ?_
            rotate_left
            ·intro w'
             go_simp
             with_reducible rfl
            rotate_left
            ·simp only [Act.put,List.setIfInBounds_toArray,List.set_cons_zero,List.set_cons_succ,i64_w,i32_w]
             rfl
            refine pure_ (i := 7) (N := some 2) (v := ?_) (a' := ?_) #[true,true,true,true,true,true,true,true] rfl rfl (any_of HT_.out q9_) (fun _ _ _ h=>h) (Or.inl ⟨by rfl,?_⟩) ?_ ?_
            rotate_left
            ·intro w'
             go_simp
             with_reducible rfl
            rotate_left
            ·simp only [Act.put,List.setIfInBounds_toArray,List.set_cons_zero,List.set_cons_succ,i64_w,i32_w]
             rfl
            refine done_ (done_of HT_.out q9_) ?_
            try go_wp2
            go_ret
            exact ⟨q1_,q16_⟩
           ·rw [if_neg c55] at H
            exact absurd H (by simp)
          ·rw [if_neg c54] at H
           exact absurd H (by simp)

end Go.Proofs.Ythcjcmgdblhhfaa.PV

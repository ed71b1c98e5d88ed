/- The machine side of these statements: what each Go function computes as a plain function, and that its call computes just that. Written by a program of mine (wip/drive.py). No conditions. -/
import Derived.Test.YtbedpnklnamnhaaDoorPGx0
import Derived.Test.YtbedpnklnamnhaaDoorPGx3
import Derived.Test.YtbedpnklnamnhaaDoorPGx5
namespace Go.Proofs.YtbedpnklnamnhaaDoor.PG
open Go.RowKit Go.Proofs.YtbedpnklnamnhaaDoorW.PrintWords Go.Proofs.YtbedpnklnamnhaaDoorW.PrintLast Go.Proofs.YtbedpnklnamnhaaDoorW.PrintMore
attribute [local go_sem] max2_int min2_int max_two min_two max_three min_three max_four min_four   -- for this text's walks alone
set_option linter.unusedVariables false
set_option linter.unusedSimpArgs false

/-! ### series_judge: function 28 -/
def series_judge.j0 : Nat → List (S40) → Int → Bool → Bool → Option (Int)
 | 0,_,_,_,_=>none
 | k + 1,x0,x5,x6,x19=>if x19 = true then (some 2) else (if x6 = true then (some 3) else (if x5 < (x0.length : Int) then (some 4) else (some 1)))
def series_judge.f (k : Nat) (l0 : List (S40)) (a1_0 : Int) (a1_1 : Int) : Option (Int) := (series_place.f l0 a1_0).bind fun bt125 => ((series_mayTime.f a1_0).bind fun t127 => (if t127 = true then (if bt125.2 = true then (if 0 ≤ bt125.1 then (if bt125.1 < (l0.length : Int) then (series_judge.j0 k l0 bt125.1 bt125.2 (((rd_T40 l0 bt125.1).f1) == a1_1)) else (none)) else (none)) else (series_judge.j0 k l0 bt125.1 bt125.2 false)) else (some 4)))
theorem series_judge.mono_l : ∀ k, (∀ y0 y1 y2 y3, LeO (series_judge.j0 k y0 y1 y2 y3) (series_judge.j0 (k + 1) y0 y1 y2 y3))
 | 0=>fun _ _ _ _ r h=>by simp [series_judge.j0] at h
 | k + 1=>by
  have ih0 := series_judge.mono_l k
  ·intro y0 y1 y2 y3
   unfold series_judge.j0
   repeat' first
   | (with_reducible exact ih0 _ _ _ _)
   | (with_reducible exact LeO.refl _)
   | (with_reducible exact LeO.none _)
   | (with_reducible refine LeO.ite ?_ ?_)
   | (with_reducible refine LeO.bind ?_ (fun _=>?_))
   | exact ih0 _ _ _ _
   | exact LeO.none _
   | refine LeO.ite ?_ ?_
   | refine LeO.bind ?_ (fun _=>?_)
theorem series_judge.mono : ∀ a0 a1 a2 k, LeO (series_judge.f k a0 a1 a2) (series_judge.f (k + 1) a0 a1 a2) := by
 intro a0 a1 a2 k
 have ih0 := series_judge.mono_l k
 unfold series_judge.f
 repeat' first
   | (with_reducible exact ih0 _ _ _ _)
   | (with_reducible exact LeO.refl _)
   | (with_reducible exact LeO.none _)
   | (with_reducible refine LeO.ite ?_ ?_)
   | (with_reducible refine LeO.bind ?_ (fun _=>?_))
   | exact ih0 _ _ _ _
   | exact LeO.none _
   | refine LeO.ite ?_ ?_
   | refine LeO.bind ?_ (fun _=>?_)
set_option maxHeartbeats 8000000 in
set_option maxRecDepth 100000 in
theorem series_judge.calls (k : Nat) (A0 : Option Addr) (c0 : Nat) (l0 : List (S40)) (a1_0 : Int) (a1_1 : Int) (r : Int) (w : World) (hr0 : Kd.C k40 w A0 l0.length l0) (hc0 : l0.length ≤ c0) (h : series_judge.f k l0 a1_0 a1_1 = some r) :
  Calls Tryd.prog 28 #[.slice A0 l0.length c0,.agg #[.int .i64 a1_0,.int .u64 a1_1]] w fun e w'=>e = .returned (.int .u8 r) ∧ Below w.heap.size w w' := by
 have hu40 := Tryd.underlying40
 have HR0 := Aside0.mk hr0
 have HC0 := Aside0.mk hc0
 clear hr0 hc0
 have HB := Aside0.mk (Below.refl w.heap.size w)
 have H : ((series_place.f l0 a1_0).bind fun bt125=>((series_mayTime.f a1_0).bind fun t127=>(if t127 = true then (if bt125.2 = true then (if 0 ≤ bt125.1 then (if bt125.1 < (l0.length : Int) then (series_judge.j0 k l0 bt125.1 bt125.2 (((rd_T40 l0 bt125.1).f1) == a1_1)) else (none)) else (none)) else (series_judge.j0 k l0 bt125.1 bt125.2 false)) else (some 4)))) = some r := h
 clear h
 replace H := Option.bind_eq_some_iff.mp H
 obtain ⟨⟨t125,t126⟩,A30,H⟩ := H
 replace H : ((series_mayTime.f a1_0).bind fun t127=>(if t127 = true then (if t126 = true then (if 0 ≤ t125 then (if t125 < (l0.length : Int) then (series_judge.j0 k l0 t125 t126 (((rd_T40 l0 t125).f1) == a1_1)) else (none)) else (none)) else (series_judge.j0 k l0 t125 t126 false)) else (some 4))) = some r := H
 have A3 := Aside0.mk A30
 clear A30
 replace H := Option.bind_eq_some_iff.mp H
 obtain ⟨t127,A40,H⟩ := H
 replace H : (if t127 = true then (if t126 = true then (if 0 ≤ t125 then (if t125 < (l0.length : Int) then (series_judge.j0 k l0 t125 t126 (((rd_T40 l0 t125).f1) == a1_1)) else (none)) else (none)) else (series_judge.j0 k l0 t125 t126 false)) else (some 4)) = some r := H
 have A4 := Aside0.mk A40
 clear A40
 by_cases c5 : t127 = true
 ·subst c5
  have H1 : (if t126 = true then (if 0 ≤ t125 then (if t125 < (l0.length : Int) then (series_judge.j0 k l0 t125 t126 (((rd_T40 l0 t125).f1) == a1_1)) else (none)) else (none)) else (series_judge.j0 k l0 t125 t126 false)) = some r := by rw [if_pos rfl] at H;exact H
  clear H
  have H := H1
  clear H1
  have HC6 := Aside0.mk H
  clear H
  go_enter Tryd.func28,Tryd.ntmps28
  go_upto_region 4 with (first|((with_reducible refine gate_dst (N := 3) rfl ?_);refine box_event ?hg (N := 3) ?hd (cs := #[.int .i64 a1_0,.int .u64 a1_1]) (t := 40) ?hr ?_;(case hd=>rfl);(case hg=>rfl);(case hr=>first|(go_simp;done)|(go_simp;rfl)|(go_simp;simp [my_u8w];done));intro gb124 hg w7 hbox hb;have n0_ := Aside0.mk (below_step (bl_) hb);have n1_ := Aside0.mk (hbox);have n2_ := Aside0.mk ((by rw [hg];exact (below_size (bl_)) : w.heap.size ≤ gb124));have n3_ := Aside0.mk ((by rw [hg];exact (below_size (bl_)) : w.heap.size ≤ gb124));clear HB;have HB := n0_;have BK124 := n1_;have GW124 := n2_;have GE124 := n3_;clear n0_ n1_ n2_ n3_;clear hb hbox hg;have hcz8_0 : w7.cell? ⟨gb124,0,none⟩ = some (.int .i64 a1_0) := (blk_cell BK124.out 0).trans rfl;have hcz8_1 : w7.cell? ⟨gb124,1,none⟩ = some (.int .u64 a1_1) := (blk_cell BK124.out 1).trans rfl;have hfz8_0 := blk_frozen BK124.out 0;have hfz8_1 := blk_frozen BK124.out 1)|(go_at_call 22;(with_reducible refine (series_place.calls _ _ l0 a1_0 t125 t126 _ ?side1 ?side2 A3.out).mono ?_);(case side1=>repeat (first|exact (Kd.C_below HR0.out HB.out)|(with_reducible refine Kd.C_alloc ?_ _)|(with_reducible refine Kd.C_drewN ?_ _)|(with_reducible refine Kd.C_drew ?_)));(case side2=>exact HC0.out);rintro e w9 ⟨rfl,hb⟩;have n0_ := Aside0.mk (blk_below (g := gb124) (o := .cells #[.int .i64 a1_0,.int .u64 a1_1] 40 (0,0)) q51_ hb);have n1_ := Aside0.mk (below_step q32_ hb);clear BK124;clear HB;have BK124 := n0_;have HB := n1_;clear n0_ n1_;(try clear hb);(try clear hb2);(try clear hk);(try clear hi);have hcz10_0 : w9.cell? ⟨gb124,0,none⟩ = some (.int .i64 a1_0) := (blk_cell BK124.out 0).trans rfl;have hcz10_1 : w9.cell? ⟨gb124,1,none⟩ = some (.int .u64 a1_1) := (blk_cell BK124.out 1).trans rfl;have hfz10_0 := blk_frozen BK124.out 0;have hfz10_1 := blk_frozen BK124.out 1)|(go_at_call 27;(with_reducible refine (series_mayTime.calls a1_0 true _ A4.out).mono ?_);rintro e w' ⟨rfl,⟨nd,rfl⟩⟩;(try first|exact ⟨rfl,_,World.drewN_drewN _ _ _⟩|exact ⟨rfl,_,Eq.trans (World.drewN_drewN _ _ _) (congrArg (World.drewN _) (Nat.add_assoc _ _ _))⟩)))
  repeat (go_quiet (first|((with_reducible refine gate_dst (N := 3) rfl ?_);refine box_event ?hg (N := 3) ?hd (cs := #[.int .i64 a1_0,.int .u64 a1_1]) (t := 40) ?hr ?_;(case hd=>rfl);(case hg=>rfl);(case hr=>first|(go_simp;done)|(go_simp;rfl)|(go_simp;simp [my_u8w];done));intro gb124 hg w7 hbox hb;have n0_ := Aside0.mk (below_step (bl_) hb);have n1_ := Aside0.mk (hbox);have n2_ := Aside0.mk ((by rw [hg];exact (below_size (bl_)) : w.heap.size ≤ gb124));have n3_ := Aside0.mk ((by rw [hg];exact (below_size (bl_)) : w.heap.size ≤ gb124));clear HB;have HB := n0_;have BK124 := n1_;have GW124 := n2_;have GE124 := n3_;clear n0_ n1_ n2_ n3_;clear hb hbox hg;have hcz8_0 : w7.cell? ⟨gb124,0,none⟩ = some (.int .i64 a1_0) := (blk_cell BK124.out 0).trans rfl;have hcz8_1 : w7.cell? ⟨gb124,1,none⟩ = some (.int .u64 a1_1) := (blk_cell BK124.out 1).trans rfl;have hfz8_0 := blk_frozen BK124.out 0;have hfz8_1 := blk_frozen BK124.out 1)|(go_at_call 22;(with_reducible refine (series_place.calls _ _ l0 a1_0 t125 t126 _ ?side1 ?side2 A3.out).mono ?_);(case side1=>repeat (first|exact (Kd.C_below HR0.out HB.out)|(with_reducible refine Kd.C_alloc ?_ _)|(with_reducible refine Kd.C_drewN ?_ _)|(with_reducible refine Kd.C_drew ?_)));(case side2=>exact HC0.out);rintro e w9 ⟨rfl,hb⟩;have n0_ := Aside0.mk (blk_below (g := gb124) (o := .cells #[.int .i64 a1_0,.int .u64 a1_1] 40 (0,0)) q51_ hb);have n1_ := Aside0.mk (below_step q32_ hb);clear BK124;clear HB;have BK124 := n0_;have HB := n1_;clear n0_ n1_;(try clear hb);(try clear hb2);(try clear hk);(try clear hi);have hcz10_0 : w9.cell? ⟨gb124,0,none⟩ = some (.int .i64 a1_0) := (blk_cell BK124.out 0).trans rfl;have hcz10_1 : w9.cell? ⟨gb124,1,none⟩ = some (.int .u64 a1_1) := (blk_cell BK124.out 1).trans rfl;have hfz10_0 := blk_frozen BK124.out 0;have hfz10_1 := blk_frozen BK124.out 1)|(go_at_call 27;(with_reducible refine (series_mayTime.calls a1_0 true _ A4.out).mono ?_);rintro e w' ⟨rfl,⟨nd,rfl⟩⟩;(try first|exact ⟨rfl,_,World.drewN_drewN _ _ _⟩|exact ⟨rfl,_,Eq.trans (World.drewN_drewN _ _ _) (congrArg (World.drewN _) (Nat.add_assoc _ _ _))⟩)));go_upto_region 4 with (first|((with_reducible refine gate_dst (N := 3) rfl ?_);refine box_event ?hg (N := 3) ?hd (cs := #[.int .i64 a1_0,.int .u64 a1_1]) (t := 40) ?hr ?_;(case hd=>rfl);(case hg=>rfl);(case hr=>first|(go_simp;done)|(go_simp;rfl)|(go_simp;simp [my_u8w];done));intro gb124 hg w7 hbox hb;have n0_ := Aside0.mk (below_step (bl_) hb);have n1_ := Aside0.mk (hbox);have n2_ := Aside0.mk ((by rw [hg];exact (below_size (bl_)) : w.heap.size ≤ gb124));have n3_ := Aside0.mk ((by rw [hg];exact (below_size (bl_)) : w.heap.size ≤ gb124));clear HB;have HB := n0_;have BK124 := n1_;have GW124 := n2_;have GE124 := n3_;clear n0_ n1_ n2_ n3_;clear hb hbox hg;have hcz8_0 : w7.cell? ⟨gb124,0,none⟩ = some (.int .i64 a1_0) := (blk_cell BK124.out 0).trans rfl;have hcz8_1 : w7.cell? ⟨gb124,1,none⟩ = some (.int .u64 a1_1) := (blk_cell BK124.out 1).trans rfl;have hfz8_0 := blk_frozen BK124.out 0;have hfz8_1 := blk_frozen BK124.out 1)|(go_at_call 22;(with_reducible refine (series_place.calls _ _ l0 a1_0 t125 t126 _ ?side1 ?side2 A3.out).mono ?_);(case side1=>repeat (first|exact (Kd.C_below HR0.out HB.out)|(with_reducible refine Kd.C_alloc ?_ _)|(with_reducible refine Kd.C_drewN ?_ _)|(with_reducible refine Kd.C_drew ?_)));(case side2=>exact HC0.out);rintro e w9 ⟨rfl,hb⟩;have n0_ := Aside0.mk (blk_below (g := gb124) (o := .cells #[.int .i64 a1_0,.int .u64 a1_1] 40 (0,0)) q51_ hb);have n1_ := Aside0.mk (below_step q32_ hb);clear BK124;clear HB;have BK124 := n0_;have HB := n1_;clear n0_ n1_;(try clear hb);(try clear hb2);(try clear hk);(try clear hi);have hcz10_0 : w9.cell? ⟨gb124,0,none⟩ = some (.int .i64 a1_0) := (blk_cell BK124.out 0).trans rfl;have hcz10_1 : w9.cell? ⟨gb124,1,none⟩ = some (.int .u64 a1_1) := (blk_cell BK124.out 1).trans rfl;have hfz10_0 := blk_frozen BK124.out 0;have hfz10_1 := blk_frozen BK124.out 1)|(go_at_call 27;(with_reducible refine (series_mayTime.calls a1_0 true _ A4.out).mono ?_);rintro e w' ⟨rfl,⟨nd,rfl⟩⟩;(try first|exact ⟨rfl,_,World.drewN_drewN _ _ _⟩|exact ⟨rfl,_,Eq.trans (World.drewN_drewN _ _ _) (congrArg (World.drewN _) (Nat.add_assoc _ _ _))⟩))))
  (try simp only [Act.put,List.setIfInBounds_toArray,List.set_cons_zero,List.set_cons_succ])
  go_cut [19] (fun v19 wc=>∃ (kq : Nat) (x19_5 : Bool),v19 = .bool x19_5 ∧ Aside0 (series_judge.j0 kq l0 t125 t126 x19_5 = some r) ∧ Aside0 (kq ≤ k) ∧ Aside0 (wc.heap[gb124]? = some (.cells #[.int .i64 a1_0,.int .u64 a1_1] 40 (0,0))) ∧ Aside0 (Below w.heap.size w wc))
  case first =>
   have H := HC6.out
   clear HC6
   by_cases c11 : t126 = true
   ·subst c11
    have H1 : (if 0 ≤ t125 then (if t125 < (l0.length : Int) then (series_judge.j0 k l0 t125 true (((rd_T40 l0 t125).f1) == a1_1)) else (none)) else (none)) = some r := by rw [if_pos rfl] at H;exact H
    clear H
    have H := H1
    clear H1
    by_cases c12 : 0 ≤ t125
    ·rw [if_pos c12] at H
     have c12b0 : decide (0 ≤ t125) = true := decide_eq_true c12
     clear c12
     (first|rw [c12b0]|(simp only [i64_w,i32_w];rw [c12b0])|skip)
     by_cases c13 : t125 < (l0.length : Int)
     ·rw [if_pos c13] at H
      have c13b0 : decide (t125 < (l0.length : Int)) = true := decide_eq_true c13
      clear c13
      have H' := Aside0.mk H
      clear H
      have p128 : 0 ≤ (t125 : Int) := of_decide_eq_true q19_
      have q128 : t125 < (l0.length : Int) := of_decide_eq_true q19_
      obtain ⟨ad128,e128,hx128_0,hx128_1⟩ := at_T40 HR0.out t125 p128 q128
      cases e128
      replace hx128_0 := (HB.out.cell (World.block_lt_of_cell? w _ hx128_0)).trans hx128_0
      replace hx128_1 := (HB.out.cell (World.block_lt_of_cell? w _ hx128_1)).trans hx128_1
      replace p128 := eq_true p128
      replace q128 := eq_true q128
      have hcz14_0 : w9.cell? ⟨gb124,0,none⟩ = some (.int .i64 a1_0) := (blk_cell BK124.out 0).trans rfl
      have hcz14_1 : w9.cell? ⟨gb124,1,none⟩ = some (.int .u64 a1_1) := (blk_cell BK124.out 1).trans rfl
      have hfz14_0 := blk_frozen BK124.out 0
      have hfz14_1 := blk_frozen BK124.out 1
      go_wp2
      repeat (go_quiet (fail);try go_wp2)
      go_meet
      case rel=>exact ⟨_,((((rd_T40 l0 t125).f1) == a1_1)),q34_,H',⟨q82_⟩,⟨q51_⟩,⟨q32_⟩⟩
     ·rw [if_neg c13] at H
      exact absurd H (by simp)
    ·rw [if_neg c12] at H
     exact absurd H (by simp)
   ·replace c11 := Bool.eq_false_iff.mpr c11
    subst c11
    have H1 : (series_judge.j0 k l0 t125 false false) = some r := by rw [if_neg (show ¬ (false = true) by decide)] at H;exact H
    clear H
    have H := H1
    clear H1
    have H' := Aside0.mk H
    clear H
    go_wp2
    repeat (go_quiet (fail);try go_wp2)
    go_meet
    case rel=>exact ⟨_,(false),q34_,H',⟨q82_⟩,⟨q51_⟩,⟨q32_⟩⟩
  case rest =>
   clear HC6
   try clear c1
   try clear p1
   try clear q1
   try clear hx1
   try clear c2
   try clear p2
   try clear c5
   try clear c11
   try clear c12
   try clear c12b0
   try clear p12
   try clear q12
   try clear hx12
   try clear c13
   try clear c13b0
   try clear hcz10_0
   try clear hcz10_1
   try clear hcz14_0
   try clear hcz14_1
   try clear hcz8_0
   try clear hcz8_1
   try clear hfz10_0
   try clear hfz10_1
   try clear hfz14_0
   try clear hfz14_1
   try clear hfz8_0
   try clear hfz8_1
   try clear hx128_0
   try clear hx128_1
   try clear p128
   try clear q128
   obtain ⟨kq,x19_5,rfl,HA,HJ5,BK124,HB⟩ := hcut
   cases kq with
   | zero=>exact absurd HA.out (by simp [series_judge.j0])
   | succ kj5 =>
    have H := HA.out
    clear HA
    simp only [series_judge.j0] at H
    by_cases c15 : x19_5 = true
    ·subst c15
     have H1 : (some 2) = some r := by rw [if_pos rfl] at H;exact H
     clear H
     have H := H1
     clear H1
     obtain rfl := Option.some.inj H
     go_wp2
     repeat (go_quiet (fail);try go_wp2)
     go_ret
     exact ⟨q27_,q32_⟩
    ·replace c15 := Bool.eq_false_iff.mpr c15
     subst c15
     have H1 : (if t126 = true then (some 3) else (if t125 < (l0.length : Int) then (some 4) else (some 1))) = some r := by rw [if_neg (show ¬ (false = true) by decide)] at H;exact H
     clear H
     have H := H1
     clear H1
     by_cases c16 : t126 = true
     ·subst c16
      have H1 : (some 3) = some r := by rw [if_pos rfl] at H;exact H
      clear H
      have H := H1
      clear H1
      obtain rfl := Option.some.inj H
      go_wp2
      repeat (go_quiet (fail);try go_wp2)
      go_ret
      exact ⟨q27_,q32_⟩
     ·replace c16 := Bool.eq_false_iff.mpr c16
      subst c16
      have H1 : (if t125 < (l0.length : Int) then (some 4) else (some 1)) = some r := by rw [if_neg (show ¬ (false = true) by decide)] at H;exact H
      clear H
      have H := H1
      clear H1
      by_cases c17 : t125 < (l0.length : Int)
      ·rw [if_pos c17] at H
       have c17b0 : decide (t125 < (l0.length : Int)) = true := decide_eq_true c17
       clear c17
       obtain rfl := Option.some.inj H
       go_wp2
       repeat (go_quiet (fail);try go_wp2)
       go_ret
       exact ⟨q27_,q32_⟩
      ·rw [if_neg c17] at H
       have c17b0 : decide (t125 < (l0.length : Int)) = false := decide_eq_false c17
       clear c17
       obtain rfl := Option.some.inj H
       go_wp2
       repeat (go_quiet (fail);try go_wp2)
       go_ret
       exact ⟨q27_,q32_⟩
 ·replace c5 := Bool.eq_false_iff.mpr c5
  subst c5
  have H1 : (some 4) = some r := by rw [if_neg (show ¬ (false = true) by decide)] at H;exact H
  clear H
  have H := H1
  clear H1
  obtain rfl := Option.some.inj H
  go_enter Tryd.func28,Tryd.ntmps28
  go_wp2_with (first|((with_reducible refine gate_dst (N := 3) rfl ?_);refine box_event ?hg (N := 3) ?hd (cs := #[.int .i64 a1_0,.int .u64 a1_1]) (t := 40) ?hr ?_;(case hd=>rfl);(case hg=>rfl);(case hr=>first|(go_simp;done)|(go_simp;rfl)|(go_simp;simp [my_u8w];done));intro gb124 hg w18 hbox hb;have n0_ := Aside0.mk (below_step (bl_) hb);have n1_ := Aside0.mk (hbox);have n2_ := Aside0.mk ((by rw [hg];exact (below_size (bl_)) : w.heap.size ≤ gb124));have n3_ := Aside0.mk ((by rw [hg];exact (below_size (bl_)) : w.heap.size ≤ gb124));clear HB;have HB := n0_;have BK124 := n1_;have GW124 := n2_;have GE124 := n3_;clear n0_ n1_ n2_ n3_;clear hb hbox hg;have hcz19_0 : w18.cell? ⟨gb124,0,none⟩ = some (.int .i64 a1_0) := (blk_cell BK124.out 0).trans rfl;have hcz19_1 : w18.cell? ⟨gb124,1,none⟩ = some (.int .u64 a1_1) := (blk_cell BK124.out 1).trans rfl;have hfz19_0 := blk_frozen BK124.out 0;have hfz19_1 := blk_frozen BK124.out 1)|(go_at_call 22;(with_reducible refine (series_place.calls _ _ l0 a1_0 t125 t126 _ ?side1 ?side2 A3.out).mono ?_);(case side1=>repeat (first|exact (Kd.C_below HR0.out HB.out)|(with_reducible refine Kd.C_alloc ?_ _)|(with_reducible refine Kd.C_drewN ?_ _)|(with_reducible refine Kd.C_drew ?_)));(case side2=>exact HC0.out);rintro e w20 ⟨rfl,hb⟩;have n0_ := Aside0.mk (blk_below (g := gb124) (o := .cells #[.int .i64 a1_0,.int .u64 a1_1] 40 (0,0)) q51_ hb);have n1_ := Aside0.mk (below_step q32_ hb);clear BK124;clear HB;have BK124 := n0_;have HB := n1_;clear n0_ n1_;(try clear hb);(try clear hb2);(try clear hk);(try clear hi);have hcz21_0 : w20.cell? ⟨gb124,0,none⟩ = some (.int .i64 a1_0) := (blk_cell BK124.out 0).trans rfl;have hcz21_1 : w20.cell? ⟨gb124,1,none⟩ = some (.int .u64 a1_1) := (blk_cell BK124.out 1).trans rfl;have hfz21_0 := blk_frozen BK124.out 0;have hfz21_1 := blk_frozen BK124.out 1)|(go_at_call 27;(with_reducible refine (series_mayTime.calls a1_0 false _ A4.out).mono ?_);rintro e w' ⟨rfl,⟨nd,rfl⟩⟩;(try first|exact ⟨rfl,_,World.drewN_drewN _ _ _⟩|exact ⟨rfl,_,Eq.trans (World.drewN_drewN _ _ _) (congrArg (World.drewN _) (Nat.add_assoc _ _ _))⟩)))
  repeat (go_quiet (first|((with_reducible refine gate_dst (N := 3) rfl ?_);refine box_event ?hg (N := 3) ?hd (cs := #[.int .i64 a1_0,.int .u64 a1_1]) (t := 40) ?hr ?_;(case hd=>rfl);(case hg=>rfl);(case hr=>first|(go_simp;done)|(go_simp;rfl)|(go_simp;simp [my_u8w];done));intro gb124 hg w18 hbox hb;have n0_ := Aside0.mk (below_step (bl_) hb);have n1_ := Aside0.mk (hbox);have n2_ := Aside0.mk ((by rw [hg];exact (below_size (bl_)) : w.heap.size ≤ gb124));have n3_ := Aside0.mk ((by rw [hg];exact (below_size (bl_)) : w.heap.size ≤ gb124));clear HB;have HB := n0_;have BK124 := n1_;have GW124 := n2_;have GE124 := n3_;clear n0_ n1_ n2_ n3_;clear hb hbox hg;have hcz19_0 : w18.cell? ⟨gb124,0,none⟩ = some (.int .i64 a1_0) := (blk_cell BK124.out 0).trans rfl;have hcz19_1 : w18.cell? ⟨gb124,1,none⟩ = some (.int .u64 a1_1) := (blk_cell BK124.out 1).trans rfl;have hfz19_0 := blk_frozen BK124.out 0;have hfz19_1 := blk_frozen BK124.out 1)|(go_at_call 22;(with_reducible refine (series_place.calls _ _ l0 a1_0 t125 t126 _ ?side1 ?side2 A3.out).mono ?_);(case side1=>repeat (first|exact (Kd.C_below HR0.out HB.out)|(with_reducible refine Kd.C_alloc ?_ _)|(with_reducible refine Kd.C_drewN ?_ _)|(with_reducible refine Kd.C_drew ?_)));(case side2=>exact HC0.out);rintro e w20 ⟨rfl,hb⟩;have n0_ := Aside0.mk (blk_below (g := gb124) (o := .cells #[.int .i64 a1_0,.int .u64 a1_1] 40 (0,0)) q51_ hb);have n1_ := Aside0.mk (below_step q32_ hb);clear BK124;clear HB;have BK124 := n0_;have HB := n1_;clear n0_ n1_;(try clear hb);(try clear hb2);(try clear hk);(try clear hi);have hcz21_0 : w20.cell? ⟨gb124,0,none⟩ = some (.int .i64 a1_0) := (blk_cell BK124.out 0).trans rfl;have hcz21_1 : w20.cell? ⟨gb124,1,none⟩ = some (.int .u64 a1_1) := (blk_cell BK124.out 1).trans rfl;have hfz21_0 := blk_frozen BK124.out 0;have hfz21_1 := blk_frozen BK124.out 1)|(go_at_call 27;(with_reducible refine (series_mayTime.calls a1_0 false _ A4.out).mono ?_);rintro e w' ⟨rfl,⟨nd,rfl⟩⟩;(try first|exact ⟨rfl,_,World.drewN_drewN _ _ _⟩|exact ⟨rfl,_,Eq.trans (World.drewN_drewN _ _ _) (congrArg (World.drewN _) (Nat.add_assoc _ _ _))⟩)));try go_wp2_with (first|((with_reducible refine gate_dst (N := 3) rfl ?_);refine box_event ?hg (N := 3) ?hd (cs := #[.int .i64 a1_0,.int .u64 a1_1]) (t := 40) ?hr ?_;(case hd=>rfl);(case hg=>rfl);(case hr=>first|(go_simp;done)|(go_simp;rfl)|(go_simp;simp [my_u8w];done));intro gb124 hg w18 hbox hb;have n0_ := Aside0.mk (below_step (bl_) hb);have n1_ := Aside0.mk (hbox);have n2_ := Aside0.mk ((by rw [hg];exact (below_size (bl_)) : w.heap.size ≤ gb124));have n3_ := Aside0.mk ((by rw [hg];exact (below_size (bl_)) : w.heap.size ≤ gb124));clear HB;have HB := n0_;have BK124 := n1_;have GW124 := n2_;have GE124 := n3_;clear n0_ n1_ n2_ n3_;clear hb hbox hg;have hcz19_0 : w18.cell? ⟨gb124,0,none⟩ = some (.int .i64 a1_0) := (blk_cell BK124.out 0).trans rfl;have hcz19_1 : w18.cell? ⟨gb124,1,none⟩ = some (.int .u64 a1_1) := (blk_cell BK124.out 1).trans rfl;have hfz19_0 := blk_frozen BK124.out 0;have hfz19_1 := blk_frozen BK124.out 1)|(go_at_call 22;(with_reducible refine (series_place.calls _ _ l0 a1_0 t125 t126 _ ?side1 ?side2 A3.out).mono ?_);(case side1=>repeat (first|exact (Kd.C_below HR0.out HB.out)|(with_reducible refine Kd.C_alloc ?_ _)|(with_reducible refine Kd.C_drewN ?_ _)|(with_reducible refine Kd.C_drew ?_)));(case side2=>exact HC0.out);rintro e w20 ⟨rfl,hb⟩;have n0_ := Aside0.mk (blk_below (g := gb124) (o := .cells #[.int .i64 a1_0,.int .u64 a1_1] 40 (0,0)) q51_ hb);have n1_ := Aside0.mk (below_step q32_ hb);clear BK124;clear HB;have BK124 := n0_;have HB := n1_;clear n0_ n1_;(try clear hb);(try clear hb2);(try clear hk);(try clear hi);have hcz21_0 : w20.cell? ⟨gb124,0,none⟩ = some (.int .i64 a1_0) := (blk_cell BK124.out 0).trans rfl;have hcz21_1 : w20.cell? ⟨gb124,1,none⟩ = some (.int .u64 a1_1) := (blk_cell BK124.out 1).trans rfl;have hfz21_0 := blk_frozen BK124.out 0;have hfz21_1 := blk_frozen BK124.out 1)|(go_at_call 27;(with_reducible refine (series_mayTime.calls a1_0 false _ A4.out).mono ?_);rintro e w' ⟨rfl,⟨nd,rfl⟩⟩;(try first|exact ⟨rfl,_,World.drewN_drewN _ _ _⟩|exact ⟨rfl,_,Eq.trans (World.drewN_drewN _ _ _) (congrArg (World.drewN _) (Nat.add_assoc _ _ _))⟩))))
  go_ret
  exact ⟨q27_,q32_⟩

end Go.Proofs.YtbedpnklnamnhaaDoor.PG

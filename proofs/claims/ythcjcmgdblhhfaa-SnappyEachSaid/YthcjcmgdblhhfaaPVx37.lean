/- The machine side of these statements: what each Go function computes as a plain function, and that its call computes just that. Written by a program of mine (wip/drive.py). No conditions. -/
import Derived.Test.YthcjcmgdblhhfaaPVx0
import Derived.Test.YthcjcmgdblhhfaaPVx11
import Derived.Test.YthcjcmgdblhhfaaPVx12
import Derived.Test.YthcjcmgdblhhfaaPVx18
namespace Go.Proofs.Ythcjcmgdblhhfaa.PV
open Go.RowKit Go.Proofs.YthcjcmgdblhhfaaW.PrintWords Go.Proofs.YthcjcmgdblhhfaaW.PrintLast Go.Proofs.YthcjcmgdblhhfaaW.PrintMore
attribute [local go_sem] max2_int min2_int max_two min_two max_three min_three max_four min_four   -- for this text's walks alone
set_option linter.unusedVariables false
set_option linter.unusedSimpArgs false

/-! ### batonlaw03_SnappyEach: function 9 -/
mutual
def batonlaw03_SnappyEach.j0 : Nat → ByteArray → Bool → Option (Bool)
 | 0,_,_=>none
 | k + 1,x0,x16=>if x16 = true then ((batonlaw03_awake.f k).bind fun t469=>(some t469)) else ((snappy_Pack.f k x0).bind fun bt470=>(if bt470.2 = 0 then (batonlaw03_SnappyEach.l0 k x0 bt470.1 0 0) else (some false)))
def batonlaw03_SnappyEach.l0 : Nat → ByteArray → List (S35) → Int → Int → Option (Bool)
 | 0,_,_,_,_=>none
 | k + 1,x0,x3,x5,x6=>if x6 < (x3.length : Int) then (if 0 ≤ x6 then (if ((rd_T35 x3 x6).f0 = true) then ((snappy_Match.f k x0 x5).bind fun bt477=>(if ((rd_T35 x3 x6).f3) < 4 then (batonlaw03_SnappyEach.j2 k x0 x3 x5 x6 true ((rd_T35 x3 x6).f0) ((rd_T35 x3 x6).f1) ((rd_T35 x3 x6).f2) ((rd_T35 x3 x6).f3)) else (if ((rd_T35 x3 x6).f2) = bt477.1 then (if ((rd_T35 x3 x6).f3) = bt477.2 then (if ((rd_T35 x3 x6).f2) > x5 then (batonlaw03_SnappyEach.j2 k x0 x3 x5 x6 true ((rd_T35 x3 x6).f0) ((rd_T35 x3 x6).f1) ((rd_T35 x3 x6).f2) ((rd_T35 x3 x6).f3)) else (batonlaw03_SnappyEach.j2 k x0 x3 x5 x6 (decide (((rd_T35 x3 x6).f3) > (wrap64 ((x0.size : Int) - x5)))) ((rd_T35 x3 x6).f0) ((rd_T35 x3 x6).f1) ((rd_T35 x3 x6).f2) ((rd_T35 x3 x6).f3))) else (batonlaw03_SnappyEach.j2 k x0 x3 x5 x6 true ((rd_T35 x3 x6).f0) ((rd_T35 x3 x6).f1) ((rd_T35 x3 x6).f2) ((rd_T35 x3 x6).f3))) else (batonlaw03_SnappyEach.j2 k x0 x3 x5 x6 true ((rd_T35 x3 x6).f0) ((rd_T35 x3 x6).f1) ((rd_T35 x3 x6).f2) ((rd_T35 x3 x6).f3))))) else (if x6 > 0 then (if 0 ≤ (wrap64 (x6 - 1)) then (if (wrap64 (x6 - 1)) < (x3.length : Int) then (if ((rd_T35 x3 (wrap64 (x6 - 1))).f0 = true) then (if ((rd_T35 x3 x6).f1).toList = ([] : List UInt8) then (some false) else (if (((rd_T35 x3 x6).f1).size : Int) > (wrap64 ((x0.size : Int) - x5)) then (some false) else (if 0 ≤ x5 then (if x5 ≤ (wrap64 (x5 + (((rd_T35 x3 x6).f1).size : Int))) then (if (wrap64 (x5 + (((rd_T35 x3 x6).f1).size : Int))) ≤ (x0.size : Int) then (if (x0.extract (x5 : Int).toNat ((wrap64 (x5 + (((rd_T35 x3 x6).f1).size : Int))) : Int).toNat).toList = ((rd_T35 x3 x6).f1).toList then (batonlaw03_SnappyEach.l0 k x0 x3 (wrap64 (x5 + (((rd_T35 x3 x6).f1).size : Int))) (wrap64 (x6 + 1))) else (some false)) else (none)) else (none)) else (none)))) else (some false)) else (none)) else (none)) else (if ((rd_T35 x3 x6).f1).toList = ([] : List UInt8) then (some false) else (if (((rd_T35 x3 x6).f1).size : Int) > (wrap64 ((x0.size : Int) - x5)) then (some false) else (if 0 ≤ x5 then (if x5 ≤ (wrap64 (x5 + (((rd_T35 x3 x6).f1).size : Int))) then (if (wrap64 (x5 + (((rd_T35 x3 x6).f1).size : Int))) ≤ (x0.size : Int) then (if (x0.extract (x5 : Int).toNat ((wrap64 (x5 + (((rd_T35 x3 x6).f1).size : Int))) : Int).toNat).toList = ((rd_T35 x3 x6).f1).toList then (batonlaw03_SnappyEach.l0 k x0 x3 (wrap64 (x5 + (((rd_T35 x3 x6).f1).size : Int))) (wrap64 (x6 + 1))) else (some false)) else (none)) else (none)) else (none)))))) else (none)) else (some (x5 == (x0.size : Int)))
def batonlaw03_SnappyEach.j2 : Nat → ByteArray → List (S35) → Int → Int → Bool → Bool → ByteArray → Int → Int → Option (Bool)
 | 0,_,_,_,_,_,_,_,_,_=>none
 | k + 1,x0,x3,x5,x6,x117,x476000,x476001,x476002,x476003=>if x117 = true then (some false) else (if x476003 < 64 then (if (wrap64 (x5 + x476003)) < (x0.size : Int) then (if 0 ≤ (wrap64 (x5 + x476003)) then (if 0 ≤ (wrap64 ((wrap64 (x5 + x476003)) - x476002)) then (if (wrap64 ((wrap64 (x5 + x476003)) - x476002)) < (x0.size : Int) then (if (bt x0 (wrap64 (x5 + x476003))) = (bt x0 (wrap64 ((wrap64 (x5 + x476003)) - x476002))) then (some false) else (batonlaw03_SnappyEach.l0 k x0 x3 (wrap64 (x5 + x476003)) (wrap64 (x6 + 1)))) else (none)) else (none)) else (none)) else (batonlaw03_SnappyEach.l0 k x0 x3 (wrap64 (x5 + x476003)) (wrap64 (x6 + 1)))) else (batonlaw03_SnappyEach.l0 k x0 x3 (wrap64 (x5 + x476003)) (wrap64 (x6 + 1))))
end
def batonlaw03_SnappyEach.f (k : Nat) (a0 : ByteArray) : Option (Bool) := if (a0.size : Int) > 1500 then (batonlaw03_SnappyEach.j0 k a0 true) else ((batonlaw03_awake.f k).bind fun t468 => (batonlaw03_SnappyEach.j0 k a0 (!t468)))
theorem batonlaw03_SnappyEach.mono_l : ∀ k, (∀ y0 y1, LeO (batonlaw03_SnappyEach.j0 k y0 y1) (batonlaw03_SnappyEach.j0 (k + 1) y0 y1)) ∧ (∀ y0 y1 y2 y3, LeO (batonlaw03_SnappyEach.l0 k y0 y1 y2 y3) (batonlaw03_SnappyEach.l0 (k + 1) y0 y1 y2 y3)) ∧ (∀ y0 y1 y2 y3 y4 y5 y6 y7 y8, LeO (batonlaw03_SnappyEach.j2 k y0 y1 y2 y3 y4 y5 y6 y7 y8) (batonlaw03_SnappyEach.j2 (k + 1) y0 y1 y2 y3 y4 y5 y6 y7 y8))
 | 0=>⟨fun _ _ r h=>by simp [batonlaw03_SnappyEach.j0] at h,fun _ _ _ _ r h=>by simp [batonlaw03_SnappyEach.l0] at h,fun _ _ _ _ _ _ _ _ _ r h=>by simp [batonlaw03_SnappyEach.j2] at h⟩
 | k + 1=>by
  obtain ⟨ih0,ih1,ih2⟩ := batonlaw03_SnappyEach.mono_l k
  refine ⟨?_,?_,?_⟩
  ·intro y0 y1
   unfold batonlaw03_SnappyEach.j0
   repeat' first
   | (with_reducible exact ih0 _ _)
   | (with_reducible exact ih1 _ _ _ _)
   | (with_reducible exact ih2 _ _ _ _ _ _ _ _ _)
   | (with_reducible exact batonlaw03_awake.mono _)
   | (with_reducible exact snappy_Match.mono _ _ _)
   | (with_reducible exact snappy_Pack.mono _ _)
   | (with_reducible exact LeO.refl _)
   | (with_reducible exact LeO.none _)
   | (with_reducible refine LeO.ite ?_ ?_)
   | (with_reducible refine LeO.bind ?_ (fun _=>?_))
   | exact ih0 _ _
   | exact ih1 _ _ _ _
   | exact ih2 _ _ _ _ _ _ _ _ _
   | exact batonlaw03_awake.mono _
   | exact snappy_Match.mono _ _ _
   | exact snappy_Pack.mono _ _
   | exact LeO.none _
   | refine LeO.ite ?_ ?_
   | refine LeO.bind ?_ (fun _=>?_)
  ·intro y0 y1 y2 y3
   unfold batonlaw03_SnappyEach.l0
   repeat' first
   | (with_reducible exact ih0 _ _)
   | (with_reducible exact ih1 _ _ _ _)
   | (with_reducible exact ih2 _ _ _ _ _ _ _ _ _)
   | (with_reducible exact batonlaw03_awake.mono _)
   | (with_reducible exact snappy_Match.mono _ _ _)
   | (with_reducible exact snappy_Pack.mono _ _)
   | (with_reducible exact LeO.refl _)
   | (with_reducible exact LeO.none _)
   | (with_reducible refine LeO.ite ?_ ?_)
   | (with_reducible refine LeO.bind ?_ (fun _=>?_))
   | exact ih0 _ _
   | exact ih1 _ _ _ _
   | exact ih2 _ _ _ _ _ _ _ _ _
   | exact batonlaw03_awake.mono _
   | exact snappy_Match.mono _ _ _
   | exact snappy_Pack.mono _ _
   | exact LeO.none _
   | refine LeO.ite ?_ ?_
   | refine LeO.bind ?_ (fun _=>?_)
  ·intro y0 y1 y2 y3 y4 y5 y6 y7 y8
   unfold batonlaw03_SnappyEach.j2
   repeat' first
   | (with_reducible exact ih0 _ _)
   | (with_reducible exact ih1 _ _ _ _)
   | (with_reducible exact ih2 _ _ _ _ _ _ _ _ _)
   | (with_reducible exact batonlaw03_awake.mono _)
   | (with_reducible exact snappy_Match.mono _ _ _)
   | (with_reducible exact snappy_Pack.mono _ _)
   | (with_reducible exact LeO.refl _)
   | (with_reducible exact LeO.none _)
   | (with_reducible refine LeO.ite ?_ ?_)
   | (with_reducible refine LeO.bind ?_ (fun _=>?_))
   | exact ih0 _ _
   | exact ih1 _ _ _ _
   | exact ih2 _ _ _ _ _ _ _ _ _
   | exact batonlaw03_awake.mono _
   | exact snappy_Match.mono _ _ _
   | exact snappy_Pack.mono _ _
   | exact LeO.none _
   | refine LeO.ite ?_ ?_
   | refine LeO.bind ?_ (fun _=>?_)
theorem batonlaw03_SnappyEach.mono : ∀ a0 k, LeO (batonlaw03_SnappyEach.f k a0) (batonlaw03_SnappyEach.f (k + 1) a0) := by
 intro a0 k
 obtain ⟨ih0,ih1,ih2⟩ := batonlaw03_SnappyEach.mono_l k
 unfold batonlaw03_SnappyEach.f
 repeat' first
   | (with_reducible exact ih0 _ _)
   | (with_reducible exact ih1 _ _ _ _)
   | (with_reducible exact ih2 _ _ _ _ _ _ _ _ _)
   | (with_reducible exact batonlaw03_awake.mono _)
   | (with_reducible exact snappy_Match.mono _ _ _)
   | (with_reducible exact snappy_Pack.mono _ _)
   | (with_reducible exact LeO.refl _)
   | (with_reducible exact LeO.none _)
   | (with_reducible refine LeO.ite ?_ ?_)
   | (with_reducible refine LeO.bind ?_ (fun _=>?_))
   | exact ih0 _ _
   | exact ih1 _ _ _ _
   | exact ih2 _ _ _ _ _ _ _ _ _
   | exact batonlaw03_awake.mono _
   | exact snappy_Match.mono _ _ _
   | exact snappy_Pack.mono _ _
   | exact LeO.none _
   | refine LeO.ite ?_ ?_
   | refine LeO.bind ?_ (fun _=>?_)
set_option maxHeartbeats 8000000 in
set_option maxRecDepth 100000 in
theorem batonlaw03_SnappyEach.calls (k : Nat) (a0 : ByteArray) (r : Bool) (w : World) (h : batonlaw03_SnappyEach.f k a0 = some r) :
  Calls Try.prog 9 #[.string a0] w fun e w'=>e = .returned (.bool r) ∧ Below w.heap.size w w' := by
 have hu35 := Try.underlying35
 have HB := Aside0.mk (Below.refl w.heap.size w)
 have H : (if (a0.size : Int) > 1500 then (batonlaw03_SnappyEach.j0 k a0 true) else ((batonlaw03_awake.f k).bind fun t468=>(batonlaw03_SnappyEach.j0 k a0 (!t468)))) = some r := h
 clear h
 have HC2 := Aside0.mk H
 clear H
 go_enter Try.func9,Try.ntmps9
 go_upto_region 1 with (fail)
 repeat (go_quiet (fail);go_upto_region 1 with (fail))
 go_cut [16] (fun v16 wc=>∃ (kq : Nat) (x16_1 : Bool),v16 = .bool x16_1 ∧ Aside0 (batonlaw03_SnappyEach.j0 kq a0 x16_1 = some r) ∧ Aside0 (kq ≤ k) ∧ Aside0 (Below w.heap.size w wc))
 case first =>
  have H := HC2.out
  clear HC2
  by_cases c3 : (a0.size : Int) > 1500
  ·rw [if_pos c3] at H
   have c3b0 : decide (1500 < (a0.size : Int)) = true := decide_eq_true c3
   have c3b1 : decide (1500 < a0.size) = true := decide_eq_true q75_
   clear c3
   (first|rw [c3b0]|(simp only [i64_w,i32_w];rw [c3b0])|skip)
   have H' := Aside0.mk H
   clear H
   go_wp2
   repeat (go_quiet (fail);try go_wp2)
   go_meet
   case rel=>exact ⟨_,(true),q4_,H',⟨q50_⟩,⟨bl_⟩⟩
  ·rw [if_neg c3] at H
   have c3b0 : decide (1500 < (a0.size : Int)) = false := decide_eq_false c3
   have c3b1 : decide (1500 < a0.size) = false := decide_eq_false q75_
   clear c3
   (first|rw [c3b0]|(simp only [i64_w,i32_w];rw [c3b0])|skip)
   replace H := Option.bind_eq_some_iff.mp H
   obtain ⟨t468,A40,H⟩ := H
   replace H : (batonlaw03_SnappyEach.j0 k a0 (!t468)) = some r := H
   have A4 := Aside0.mk A40
   clear A40
   have H' := Aside0.mk H
   clear H
   go_wp2_with (first|(go_at_call 12;(with_reducible refine (batonlaw03_awake.calls k  t468 _ A4.out).mono ?_);rintro e w5 ⟨rfl,hb⟩;have n0_ := Aside0.mk (below_step (bl_) hb);clear HB;have HB := n0_;clear n0_;(try clear hb);(try clear hb2);(try clear hk);(try clear hi)))
   repeat (go_quiet (first|(go_at_call 12;(with_reducible refine (batonlaw03_awake.calls k  t468 _ A4.out).mono ?_);rintro e w5 ⟨rfl,hb⟩;have n0_ := Aside0.mk (below_step (bl_) hb);clear HB;have HB := n0_;clear n0_;(try clear hb);(try clear hb2);(try clear hk);(try clear hi)));try go_wp2_with (first|(go_at_call 12;(with_reducible refine (batonlaw03_awake.calls k  t468 _ A4.out).mono ?_);rintro e w5 ⟨rfl,hb⟩;have n0_ := Aside0.mk (below_step (bl_) hb);clear HB;have HB := n0_;clear n0_;(try clear hb);(try clear hb2);(try clear hk);(try clear hi))))
   go_meet
   case rel=>exact ⟨_,(!t468),q4_,H',⟨q50_⟩,⟨bl_⟩⟩
 case rest =>
  clear HC2
  try clear p2
  try clear c3
  try clear c3b0
  try clear c3b1
  obtain ⟨kq,x16_1,rfl,HA,HJ1,HB⟩ := hcut
  cases kq with
  | zero=>exact absurd HA.out (by simp [batonlaw03_SnappyEach.j0])
  | succ kj1 =>
   have H := HA.out
   clear HA
   simp only [batonlaw03_SnappyEach.j0] at H
   by_cases c6 : x16_1 = true
   ·subst c6
    have H1 : ((batonlaw03_awake.f kj1).bind fun t469=>(some t469)) = some r := by rw [if_pos rfl] at H;exact H
    clear H
    have H := H1
    clear H1
    replace H := Option.bind_eq_some_iff.mp H
    obtain ⟨t469,A70,H⟩ := H
    replace H : (some t469) = some r := H
    have A7 := Aside0.mk A70
    clear A70
    obtain rfl := Option.some.inj H
    go_wp2_with (first|(go_at_call 12;(with_reducible refine (batonlaw03_awake.calls kj1  t469 _ A7.out).mono ?_);rintro e w8 ⟨rfl,hb⟩;have n0_ := Aside0.mk (below_step (bl_) hb);clear HB;have HB := n0_;clear n0_;(try clear hb);(try clear hb2);(try clear hk);(try clear hi)))
    repeat (go_quiet (first|(go_at_call 12;(with_reducible refine (batonlaw03_awake.calls kj1  t469 _ A7.out).mono ?_);rintro e w8 ⟨rfl,hb⟩;have n0_ := Aside0.mk (below_step (bl_) hb);clear HB;have HB := n0_;clear n0_;(try clear hb);(try clear hb2);(try clear hk);(try clear hi)));try go_wp2_with (first|(go_at_call 12;(with_reducible refine (batonlaw03_awake.calls kj1  t469 _ A7.out).mono ?_);rintro e w8 ⟨rfl,hb⟩;have n0_ := Aside0.mk (below_step (bl_) hb);clear HB;have HB := n0_;clear n0_;(try clear hb);(try clear hb2);(try clear hk);(try clear hi))))
    go_ret
    exact ⟨q1_,bl_⟩
   ·replace c6 := Bool.eq_false_iff.mpr c6
    subst c6
    have H1 : ((snappy_Pack.f kj1 a0).bind fun bt470=>(if bt470.2 = 0 then (batonlaw03_SnappyEach.l0 kj1 a0 bt470.1 0 0) else (some false))) = some r := by rw [if_neg (show ¬ (false = true) by decide)] at H;exact H
    clear H
    have H := H1
    clear H1
    replace H := Option.bind_eq_some_iff.mp H
    obtain ⟨⟨t470,t471⟩,A90,H⟩ := H
    replace H : (if t471 = 0 then (batonlaw03_SnappyEach.l0 kj1 a0 t470 0 0) else (some false)) = some r := H
    have A9 := Aside0.mk A90
    clear A90
    by_cases c10 : t471 = 0
    ·rw [if_pos c10] at H
     have c10b0 : (t471 == 0) = true := beq_iff_eq.mpr c10
     have c10b1 : (t471 != 0) = false := bne_eq_false_iff_eq.mpr c10
     clear c10
     have H' := Aside0.mk H
     clear H
     go_wp2_with (first|(go_at_call 15;(with_reducible refine (snappy_Pack.calls kj1 a0 t470 t471 _ A9.out).mono ?_);rintro e w11 ⟨v472,rfl,ho0,hb⟩;have n0_ := Aside0.mk (Kd.R_lower ho0 (below_size (bl_)));have n1_ := Aside0.mk (below_step (bl_) hb);clear HB;have HO473 := n0_;have HB := n1_;clear n0_ n1_;(try clear hb);(try clear hb2);(try clear hk);(try clear hi);(try clear ho0)))
     repeat (go_quiet (first|(go_at_call 15;(with_reducible refine (snappy_Pack.calls kj1 a0 t470 t471 _ A9.out).mono ?_);rintro e w11 ⟨v472,rfl,ho0,hb⟩;have n0_ := Aside0.mk (Kd.R_lower ho0 (below_size (bl_)));have n1_ := Aside0.mk (below_step (bl_) hb);clear HB;have HO473 := n0_;have HB := n1_;clear n0_ n1_;(try clear hb);(try clear hb2);(try clear hk);(try clear hi);(try clear ho0)));try go_wp2_with (first|(go_at_call 15;(with_reducible refine (snappy_Pack.calls kj1 a0 t470 t471 _ A9.out).mono ?_);rintro e w11 ⟨v472,rfl,ho0,hb⟩;have n0_ := Aside0.mk (Kd.R_lower ho0 (below_size (bl_)));have n1_ := Aside0.mk (below_step (bl_) hb);clear HB;have HO473 := n0_;have HB := n1_;clear n0_ n1_;(try clear hb);(try clear hb2);(try clear hk);(try clear hi);(try clear ho0))))
     go_loopg [5,6] kj1 (fun kq v5 v6 w'=>∃ (x5_2 : Int) (x6_2 : Int),v5 = .int .i64 x5_2 ∧ v6 = .int .i64 x6_2 ∧ Aside0 (batonlaw03_SnappyEach.l0 kq a0 t470 x5_2 x6_2 = some r) ∧ Aside0 (kq ≤ kj1) ∧ Aside0 (Kd.R k35 35 w' w.heap.size (fun _=>True) v472 t470) ∧ Aside0 (Below w.heap.size w w'))
     case atStart=>exact ⟨(0),(0),q4_,q4_,H',⟨Nat.le_refl _⟩,⟨by (with_reducible repeat (first|apply Kd.R_alloc|apply Kd.R_drewN|apply Kd.R_drew));exact HO473.out⟩,⟨bl_⟩⟩
     case round =>
      clear H'
      try clear c1
      try clear p2
      try clear c3
      try clear c3b0
      try clear c3b1
      try clear c6
      try clear c9
      try clear c10
      try clear c10b0
      try clear c10b1
      try clear p2
      obtain ⟨x5_2,x6_2,rfl,rfl,HA,HK2,HO_3,HB⟩ := hrel
      cases gk with
      | zero=>exact absurd HA.out (by simp [batonlaw03_SnappyEach.l0])
      | succ k2 =>
       have H := HA.out
       clear HA
       simp only [batonlaw03_SnappyEach.l0] at H
       by_cases c12 : x6_2 < (t470.length : Int)
       ·rw [if_pos c12] at H
        have c12b0 : decide (x6_2 < (t470.length : Int)) = true := decide_eq_true c12
        clear c12
        by_cases c13 : 0 ≤ x6_2
        ·rw [if_pos c13] at H
         have c13b0 : decide (0 ≤ x6_2) = true := decide_eq_true c13
         clear c13
         obtain ⟨bq14,hbq14⟩ : ∃ b_ : Bool,b_ = ((rd_T35 t470 x6_2).f0) := ⟨_,rfl⟩
         replace H : (if (bq14 = true) then ((snappy_Match.f k2 a0 x5_2).bind fun bt477=>(if ((rd_T35 t470 x6_2).f3) < 4 then (batonlaw03_SnappyEach.j2 k2 a0 t470 x5_2 x6_2 true bq14 ((rd_T35 t470 x6_2).f1) ((rd_T35 t470 x6_2).f2) ((rd_T35 t470 x6_2).f3)) else (if ((rd_T35 t470 x6_2).f2) = bt477.1 then (if ((rd_T35 t470 x6_2).f3) = bt477.2 then (if ((rd_T35 t470 x6_2).f2) > x5_2 then (batonlaw03_SnappyEach.j2 k2 a0 t470 x5_2 x6_2 true bq14 ((rd_T35 t470 x6_2).f1) ((rd_T35 t470 x6_2).f2) ((rd_T35 t470 x6_2).f3)) else (batonlaw03_SnappyEach.j2 k2 a0 t470 x5_2 x6_2 (decide (((rd_T35 t470 x6_2).f3) > (wrap64 ((a0.size : Int) - x5_2)))) bq14 ((rd_T35 t470 x6_2).f1) ((rd_T35 t470 x6_2).f2) ((rd_T35 t470 x6_2).f3))) else (batonlaw03_SnappyEach.j2 k2 a0 t470 x5_2 x6_2 true bq14 ((rd_T35 t470 x6_2).f1) ((rd_T35 t470 x6_2).f2) ((rd_T35 t470 x6_2).f3))) else (batonlaw03_SnappyEach.j2 k2 a0 t470 x5_2 x6_2 true bq14 ((rd_T35 t470 x6_2).f1) ((rd_T35 t470 x6_2).f2) ((rd_T35 t470 x6_2).f3))))) else (if x6_2 > 0 then (if 0 ≤ (wrap64 (x6_2 - 1)) then (if (wrap64 (x6_2 - 1)) < (t470.length : Int) then (if ((rd_T35 t470 (wrap64 (x6_2 - 1))).f0 = true) then (if ((rd_T35 t470 x6_2).f1).toList = ([] : List UInt8) then (some false) else (if (((rd_T35 t470 x6_2).f1).size : Int) > (wrap64 ((a0.size : Int) - x5_2)) then (some false) else (if 0 ≤ x5_2 then (if x5_2 ≤ (wrap64 (x5_2 + (((rd_T35 t470 x6_2).f1).size : Int))) then (if (wrap64 (x5_2 + (((rd_T35 t470 x6_2).f1).size : Int))) ≤ (a0.size : Int) then (if (a0.extract (x5_2 : Int).toNat ((wrap64 (x5_2 + (((rd_T35 t470 x6_2).f1).size : Int))) : Int).toNat).toList = ((rd_T35 t470 x6_2).f1).toList then (batonlaw03_SnappyEach.l0 k2 a0 t470 (wrap64 (x5_2 + (((rd_T35 t470 x6_2).f1).size : Int))) (wrap64 (x6_2 + 1))) else (some false)) else (none)) else (none)) else (none)))) else (some false)) else (none)) else (none)) else (if ((rd_T35 t470 x6_2).f1).toList = ([] : List UInt8) then (some false) else (if (((rd_T35 t470 x6_2).f1).size : Int) > (wrap64 ((a0.size : Int) - x5_2)) then (some false) else (if 0 ≤ x5_2 then (if x5_2 ≤ (wrap64 (x5_2 + (((rd_T35 t470 x6_2).f1).size : Int))) then (if (wrap64 (x5_2 + (((rd_T35 t470 x6_2).f1).size : Int))) ≤ (a0.size : Int) then (if (a0.extract (x5_2 : Int).toNat ((wrap64 (x5_2 + (((rd_T35 t470 x6_2).f1).size : Int))) : Int).toNat).toList = ((rd_T35 t470 x6_2).f1).toList then (batonlaw03_SnappyEach.l0 k2 a0 t470 (wrap64 (x5_2 + (((rd_T35 t470 x6_2).f1).size : Int))) (wrap64 (x6_2 + 1))) else (some false)) else (none)) else (none)) else (none)))))) = some r := by rw [← hbq14] at H;exact H
         have Nbq14 := Aside0.mk hbq14
         clear hbq14
         by_cases c15 : (bq14 = true)
         ·subst c15
          have H1 : ((snappy_Match.f k2 a0 x5_2).bind fun bt477=>(if ((rd_T35 t470 x6_2).f3) < 4 then (batonlaw03_SnappyEach.j2 k2 a0 t470 x5_2 x6_2 true true ((rd_T35 t470 x6_2).f1) ((rd_T35 t470 x6_2).f2) ((rd_T35 t470 x6_2).f3)) else (if ((rd_T35 t470 x6_2).f2) = bt477.1 then (if ((rd_T35 t470 x6_2).f3) = bt477.2 then (if ((rd_T35 t470 x6_2).f2) > x5_2 then (batonlaw03_SnappyEach.j2 k2 a0 t470 x5_2 x6_2 true true ((rd_T35 t470 x6_2).f1) ((rd_T35 t470 x6_2).f2) ((rd_T35 t470 x6_2).f3)) else (batonlaw03_SnappyEach.j2 k2 a0 t470 x5_2 x6_2 (decide (((rd_T35 t470 x6_2).f3) > (wrap64 ((a0.size : Int) - x5_2)))) true ((rd_T35 t470 x6_2).f1) ((rd_T35 t470 x6_2).f2) ((rd_T35 t470 x6_2).f3))) else (batonlaw03_SnappyEach.j2 k2 a0 t470 x5_2 x6_2 true true ((rd_T35 t470 x6_2).f1) ((rd_T35 t470 x6_2).f2) ((rd_T35 t470 x6_2).f3))) else (batonlaw03_SnappyEach.j2 k2 a0 t470 x5_2 x6_2 true true ((rd_T35 t470 x6_2).f1) ((rd_T35 t470 x6_2).f2) ((rd_T35 t470 x6_2).f3))))) = some r := by rw [if_pos rfl] at H;exact H
          clear H
          have H := H1
          clear H1
          replace H := Option.bind_eq_some_iff.mp H
          obtain ⟨⟨t477,t478⟩,A160,H⟩ := H
          replace H : (if ((rd_T35 t470 x6_2).f3) < 4 then (batonlaw03_SnappyEach.j2 k2 a0 t470 x5_2 x6_2 true true ((rd_T35 t470 x6_2).f1) ((rd_T35 t470 x6_2).f2) ((rd_T35 t470 x6_2).f3)) else (if ((rd_T35 t470 x6_2).f2) = t477 then (if ((rd_T35 t470 x6_2).f3) = t478 then (if ((rd_T35 t470 x6_2).f2) > x5_2 then (batonlaw03_SnappyEach.j2 k2 a0 t470 x5_2 x6_2 true true ((rd_T35 t470 x6_2).f1) ((rd_T35 t470 x6_2).f2) ((rd_T35 t470 x6_2).f3)) else (batonlaw03_SnappyEach.j2 k2 a0 t470 x5_2 x6_2 (decide (((rd_T35 t470 x6_2).f3) > (wrap64 ((a0.size : Int) - x5_2)))) true ((rd_T35 t470 x6_2).f1) ((rd_T35 t470 x6_2).f2) ((rd_T35 t470 x6_2).f3))) else (batonlaw03_SnappyEach.j2 k2 a0 t470 x5_2 x6_2 true true ((rd_T35 t470 x6_2).f1) ((rd_T35 t470 x6_2).f2) ((rd_T35 t470 x6_2).f3))) else (batonlaw03_SnappyEach.j2 k2 a0 t470 x5_2 x6_2 true true ((rd_T35 t470 x6_2).f1) ((rd_T35 t470 x6_2).f2) ((rd_T35 t470 x6_2).f3)))) = some r := H
          have A16 := Aside0.mk A160
          clear A160
          have HC17 := Aside0.mk H
          clear H
          obtain ⟨Ao18,co18,eo18⟩ := Kd.R_slice HO_3.out
          subst eo18
          have p474 : 0 ≤ (x6_2 : Int) := of_decide_eq_true q3_
          have q474 : x6_2 < (t470.length : Int) := of_decide_eq_true q3_
          obtain ⟨ad474,e474,hx474_0,hx474_1,hx474_2,hx474_3⟩ := at_T35 (Kd.R_reads' HO_3.out).2.2 x6_2 p474 q474
          (try rw [← Nbq14.out] at hx474_0)
          cases e474
          replace p474 := eq_true p474
          replace q474 := eq_true q474
          go_upto_region 16 with (first|((with_reducible refine gate_dst (N := 7) rfl ?_);(try (refine gate_guard (by rfl) ?_;dsimp only));refine box_event ?hg (N := 7) ?hd (cs := #[.bool false,.string (⟨#[]⟩ : ByteArray),.int .i64 0,.int .i64 0]) (t := 35) ?hr ?_;(case hd=>rfl);(case hg=>rfl);(case hr=>first|(go_simp;done)|(go_simp;rfl)|(go_simp;simp [my_u8w];done));intro gb475 hg w19 hbox hb;have n0_ := Aside0.mk (Kd.R_below (Kd.R_elderB q19_ gb475 (Nat.le_of_eq hg.symm)) hb);have n1_ := Aside0.mk (below_step (bl_) hb);have n2_ := Aside0.mk (hbox);have n3_ := Aside0.mk ((by rw [hg];exact (below_size (bl_)) : w.heap.size ≤ gb475));have n4_ := Aside0.mk ((by rw [hg];exact (below_size (bl_)) : w.heap.size ≤ gb475));clear HO_3;clear HB;have HO_3 := n0_;have HB := n1_;have BK475 := n2_;have GW475 := n3_;have GE475 := n4_;clear n0_ n1_ n2_ n3_ n4_;clear hb hbox hg;have hcz20_0 : w19.cell? ⟨gb475,0,none⟩ = some (.bool false) := (blk_cell BK475.out 0).trans rfl;have hcz20_1 : w19.cell? ⟨gb475,1,none⟩ = some (.string (⟨#[]⟩ : ByteArray)) := (blk_cell BK475.out 1).trans rfl;have hcz20_2 : w19.cell? ⟨gb475,2,none⟩ = some (.int .i64 0) := (blk_cell BK475.out 2).trans rfl;have hcz20_3 : w19.cell? ⟨gb475,3,none⟩ = some (.int .i64 0) := (blk_cell BK475.out 3).trans rfl;have hfz20_0 := blk_frozen BK475.out 0;have hfz20_1 := blk_frozen BK475.out 1;have hfz20_2 := blk_frozen BK475.out 2;have hfz20_3 := blk_frozen BK475.out 3)|(go_at_call 18;(with_reducible refine (snappy_Match.calls k2 a0 x5_2 t477 t478 _ A16.out).mono ?_);rintro e w21 ⟨rfl,hb⟩;have n0_ := Aside0.mk (Kd.R_below q55_ hb);have n1_ := Aside0.mk (blk_below (g := gb475) (o := .cells #[.bool true,.string ((rd_T35 t470 x6_2).f1),.int .i64 ((rd_T35 t470 x6_2).f2),.int .i64 ((rd_T35 t470 x6_2).f3)] 35 (0,0)) q33_ hb);have n2_ := Aside0.mk (below_step q17_ hb);clear HO_3;clear BK475;clear HB;have HO_3 := n0_;have BK475 := n1_;have HB := n2_;clear n0_ n1_ n2_;(try clear hb);(try clear hb2);(try clear hk);(try clear hi)))
          repeat (go_quiet (first|((with_reducible refine gate_dst (N := 7) rfl ?_);(try (refine gate_guard (by rfl) ?_;dsimp only));refine box_event ?hg (N := 7) ?hd (cs := #[.bool false,.string (⟨#[]⟩ : ByteArray),.int .i64 0,.int .i64 0]) (t := 35) ?hr ?_;(case hd=>rfl);(case hg=>rfl);(case hr=>first|(go_simp;done)|(go_simp;rfl)|(go_simp;simp [my_u8w];done));intro gb475 hg w19 hbox hb;have n0_ := Aside0.mk (Kd.R_below (Kd.R_elderB q19_ gb475 (Nat.le_of_eq hg.symm)) hb);have n1_ := Aside0.mk (below_step (bl_) hb);have n2_ := Aside0.mk (hbox);have n3_ := Aside0.mk ((by rw [hg];exact (below_size (bl_)) : w.heap.size ≤ gb475));have n4_ := Aside0.mk ((by rw [hg];exact (below_size (bl_)) : w.heap.size ≤ gb475));clear HO_3;clear HB;have HO_3 := n0_;have HB := n1_;have BK475 := n2_;have GW475 := n3_;have GE475 := n4_;clear n0_ n1_ n2_ n3_ n4_;clear hb hbox hg;have hcz20_0 : w19.cell? ⟨gb475,0,none⟩ = some (.bool false) := (blk_cell BK475.out 0).trans rfl;have hcz20_1 : w19.cell? ⟨gb475,1,none⟩ = some (.string (⟨#[]⟩ : ByteArray)) := (blk_cell BK475.out 1).trans rfl;have hcz20_2 : w19.cell? ⟨gb475,2,none⟩ = some (.int .i64 0) := (blk_cell BK475.out 2).trans rfl;have hcz20_3 : w19.cell? ⟨gb475,3,none⟩ = some (.int .i64 0) := (blk_cell BK475.out 3).trans rfl;have hfz20_0 := blk_frozen BK475.out 0;have hfz20_1 := blk_frozen BK475.out 1;have hfz20_2 := blk_frozen BK475.out 2;have hfz20_3 := blk_frozen BK475.out 3)|(go_at_call 18;(with_reducible refine (snappy_Match.calls k2 a0 x5_2 t477 t478 _ A16.out).mono ?_);rintro e w21 ⟨rfl,hb⟩;have n0_ := Aside0.mk (Kd.R_below q55_ hb);have n1_ := Aside0.mk (blk_below (g := gb475) (o := .cells #[.bool true,.string ((rd_T35 t470 x6_2).f1),.int .i64 ((rd_T35 t470 x6_2).f2),.int .i64 ((rd_T35 t470 x6_2).f3)] 35 (0,0)) q33_ hb);have n2_ := Aside0.mk (below_step q17_ hb);clear HO_3;clear BK475;clear HB;have HO_3 := n0_;have BK475 := n1_;have HB := n2_;clear n0_ n1_ n2_;(try clear hb);(try clear hb2);(try clear hk);(try clear hi)));go_upto_region 16 with (first|((with_reducible refine gate_dst (N := 7) rfl ?_);(try (refine gate_guard (by rfl) ?_;dsimp only));refine box_event ?hg (N := 7) ?hd (cs := #[.bool false,.string (⟨#[]⟩ : ByteArray),.int .i64 0,.int .i64 0]) (t := 35) ?hr ?_;(case hd=>rfl);(case hg=>rfl);(case hr=>first|(go_simp;done)|(go_simp;rfl)|(go_simp;simp [my_u8w];done));intro gb475 hg w19 hbox hb;have n0_ := Aside0.mk (Kd.R_below (Kd.R_elderB q19_ gb475 (Nat.le_of_eq hg.symm)) hb);have n1_ := Aside0.mk (below_step (bl_) hb);have n2_ := Aside0.mk (hbox);have n3_ := Aside0.mk ((by rw [hg];exact (below_size (bl_)) : w.heap.size ≤ gb475));have n4_ := Aside0.mk ((by rw [hg];exact (below_size (bl_)) : w.heap.size ≤ gb475));clear HO_3;clear HB;have HO_3 := n0_;have HB := n1_;have BK475 := n2_;have GW475 := n3_;have GE475 := n4_;clear n0_ n1_ n2_ n3_ n4_;clear hb hbox hg;have hcz20_0 : w19.cell? ⟨gb475,0,none⟩ = some (.bool false) := (blk_cell BK475.out 0).trans rfl;have hcz20_1 : w19.cell? ⟨gb475,1,none⟩ = some (.string (⟨#[]⟩ : ByteArray)) := (blk_cell BK475.out 1).trans rfl;have hcz20_2 : w19.cell? ⟨gb475,2,none⟩ = some (.int .i64 0) := (blk_cell BK475.out 2).trans rfl;have hcz20_3 : w19.cell? ⟨gb475,3,none⟩ = some (.int .i64 0) := (blk_cell BK475.out 3).trans rfl;have hfz20_0 := blk_frozen BK475.out 0;have hfz20_1 := blk_frozen BK475.out 1;have hfz20_2 := blk_frozen BK475.out 2;have hfz20_3 := blk_frozen BK475.out 3)|(go_at_call 18;(with_reducible refine (snappy_Match.calls k2 a0 x5_2 t477 t478 _ A16.out).mono ?_);rintro e w21 ⟨rfl,hb⟩;have n0_ := Aside0.mk (Kd.R_below q55_ hb);have n1_ := Aside0.mk (blk_below (g := gb475) (o := .cells #[.bool true,.string ((rd_T35 t470 x6_2).f1),.int .i64 ((rd_T35 t470 x6_2).f2),.int .i64 ((rd_T35 t470 x6_2).f3)] 35 (0,0)) q33_ hb);have n2_ := Aside0.mk (below_step q17_ hb);clear HO_3;clear BK475;clear HB;have HO_3 := n0_;have BK475 := n1_;have HB := n2_;clear n0_ n1_ n2_;(try clear hb);(try clear hb2);(try clear hk);(try clear hi))))
          (try simp only [Act.put,List.setIfInBounds_toArray,List.set_cons_zero,List.set_cons_succ])
          go_cut [117] (fun v117 wc=>∃ (kq : Nat) (x117_16 : Bool),v117 = .bool x117_16 ∧ Aside0 (batonlaw03_SnappyEach.j2 kq a0 t470 x5_2 x6_2 x117_16 true ((rd_T35 t470 x6_2).f1) ((rd_T35 t470 x6_2).f2) ((rd_T35 t470 x6_2).f3) = some r) ∧ Aside0 (kq ≤ k2) ∧ Aside0 (Kd.R k35 35 wc w.heap.size (fun k_=>k_ ≠ gb475) (.slice (some ad474) t470.length co18) t470) ∧ Aside0 (wc.heap[gb475]? = some (.cells #[.bool true,.string ((rd_T35 t470 x6_2).f1),.int .i64 ((rd_T35 t470 x6_2).f2),.int .i64 ((rd_T35 t470 x6_2).f3)] 35 (0,0))) ∧ Aside0 (Below w.heap.size w wc))
          case first =>
           have H := HC17.out
           clear HC17
           by_cases c22 : ((rd_T35 t470 x6_2).f3) < 4
           ·rw [if_pos c22] at H
            have c22b0 : decide (((rd_T35 t470 x6_2).f3) < 4) = true := decide_eq_true c22
            clear c22
            (first|rw [c22b0]|(simp only [i64_w,i32_w];rw [c22b0])|skip)
            have H' := Aside0.mk H
            clear H
            have hcz23_0 : w21.cell? ⟨gb475,0,none⟩ = some (.bool true) := (blk_cell BK475.out 0).trans rfl
            have hcz23_1 : w21.cell? ⟨gb475,1,none⟩ = some (.string ((rd_T35 t470 x6_2).f1)) := (blk_cell BK475.out 1).trans rfl
            have hcz23_2 : w21.cell? ⟨gb475,2,none⟩ = some (.int .i64 ((rd_T35 t470 x6_2).f2)) := (blk_cell BK475.out 2).trans rfl
            have hcz23_3 : w21.cell? ⟨gb475,3,none⟩ = some (.int .i64 ((rd_T35 t470 x6_2).f3)) := (blk_cell BK475.out 3).trans rfl
            have hfz23_0 := blk_frozen BK475.out 0
            have hfz23_1 := blk_frozen BK475.out 1
            have hfz23_2 := blk_frozen BK475.out 2
            have hfz23_3 := blk_frozen BK475.out 3
            go_wp2
            repeat (go_quiet (fail);try go_wp2)
            go_meet
            case rel=>(try rw [← Nbq14.out]);exact ⟨_,(true),q4_,H',⟨q96_⟩,⟨q77_⟩,⟨q83_⟩,⟨q17_⟩⟩
           ·rw [if_neg c22] at H
            have c22b0 : decide (((rd_T35 t470 x6_2).f3) < 4) = false := decide_eq_false c22
            clear c22
            (first|rw [c22b0]|(simp only [i64_w,i32_w];rw [c22b0])|skip)
            by_cases c24 : ((rd_T35 t470 x6_2).f2) = t477
            ·rw [if_pos c24] at H
             have c24b0 : (((rd_T35 t470 x6_2).f2) == t477) = true := beq_iff_eq.mpr c24
             have c24b1 : (((rd_T35 t470 x6_2).f2) != t477) = false := bne_eq_false_iff_eq.mpr c24
             clear c24
             by_cases c25 : ((rd_T35 t470 x6_2).f3) = t478
             ·rw [if_pos c25] at H
              have c25b0 : (((rd_T35 t470 x6_2).f3) == t478) = true := beq_iff_eq.mpr c25
              have c25b1 : (((rd_T35 t470 x6_2).f3) != t478) = false := bne_eq_false_iff_eq.mpr c25
              clear c25
              by_cases c26 : ((rd_T35 t470 x6_2).f2) > x5_2
              ·rw [if_pos c26] at H
               have c26b0 : decide (x5_2 < ((rd_T35 t470 x6_2).f2)) = true := decide_eq_true c26
               clear c26
               have H' := Aside0.mk H
               clear H
               have hcz27_0 : w21.cell? ⟨gb475,0,none⟩ = some (.bool true) := (blk_cell BK475.out 0).trans rfl
               have hcz27_1 : w21.cell? ⟨gb475,1,none⟩ = some (.string ((rd_T35 t470 x6_2).f1)) := (blk_cell BK475.out 1).trans rfl
               have hcz27_2 : w21.cell? ⟨gb475,2,none⟩ = some (.int .i64 ((rd_T35 t470 x6_2).f2)) := (blk_cell BK475.out 2).trans rfl
               have hcz27_3 : w21.cell? ⟨gb475,3,none⟩ = some (.int .i64 ((rd_T35 t470 x6_2).f3)) := (blk_cell BK475.out 3).trans rfl
               have hfz27_0 := blk_frozen BK475.out 0
               have hfz27_1 := blk_frozen BK475.out 1
               have hfz27_2 := blk_frozen BK475.out 2
               have hfz27_3 := blk_frozen BK475.out 3
               go_wp2
               repeat (go_quiet (fail);try go_wp2)
               go_meet
               case rel=>(try rw [← Nbq14.out]);exact ⟨_,(true),q4_,H',⟨q96_⟩,⟨q77_⟩,⟨q83_⟩,⟨q17_⟩⟩
              ·rw [if_neg c26] at H
               have c26b0 : decide (x5_2 < ((rd_T35 t470 x6_2).f2)) = false := decide_eq_false c26
               clear c26
               have H' := Aside0.mk H
               clear H
               have hcz28_0 : w21.cell? ⟨gb475,0,none⟩ = some (.bool true) := (blk_cell BK475.out 0).trans rfl
               have hcz28_1 : w21.cell? ⟨gb475,1,none⟩ = some (.string ((rd_T35 t470 x6_2).f1)) := (blk_cell BK475.out 1).trans rfl
               have hcz28_2 : w21.cell? ⟨gb475,2,none⟩ = some (.int .i64 ((rd_T35 t470 x6_2).f2)) := (blk_cell BK475.out 2).trans rfl
               have hcz28_3 : w21.cell? ⟨gb475,3,none⟩ = some (.int .i64 ((rd_T35 t470 x6_2).f3)) := (blk_cell BK475.out 3).trans rfl
               have hfz28_0 := blk_frozen BK475.out 0
               have hfz28_1 := blk_frozen BK475.out 1
               have hfz28_2 := blk_frozen BK475.out 2
               have hfz28_3 := blk_frozen BK475.out 3
               go_wp2
               repeat (go_quiet (fail);try go_wp2)
               go_meet
               case rel=>(try rw [← Nbq14.out]);exact ⟨_,(decide (((rd_T35 t470 x6_2).f3) > (wrap64 ((a0.size : Int) - x5_2)))),q4_,H',⟨q96_⟩,⟨q77_⟩,⟨q83_⟩,⟨q17_⟩⟩
             ·rw [if_neg c25] at H
              have c25b0 : (((rd_T35 t470 x6_2).f3) == t478) = false := beq_eq_false_iff_ne.mpr c25
              have c25b1 : (((rd_T35 t470 x6_2).f3) != t478) = true := bne_iff_ne.mpr c25
              have H' := Aside0.mk H
              clear H
              have hcz29_0 : w21.cell? ⟨gb475,0,none⟩ = some (.bool true) := (blk_cell BK475.out 0).trans rfl
              have hcz29_1 : w21.cell? ⟨gb475,1,none⟩ = some (.string ((rd_T35 t470 x6_2).f1)) := (blk_cell BK475.out 1).trans rfl
              have hcz29_2 : w21.cell? ⟨gb475,2,none⟩ = some (.int .i64 ((rd_T35 t470 x6_2).f2)) := (blk_cell BK475.out 2).trans rfl
              have hcz29_3 : w21.cell? ⟨gb475,3,none⟩ = some (.int .i64 ((rd_T35 t470 x6_2).f3)) := (blk_cell BK475.out 3).trans rfl
              have hfz29_0 := blk_frozen BK475.out 0
              have hfz29_1 := blk_frozen BK475.out 1
              have hfz29_2 := blk_frozen BK475.out 2
              have hfz29_3 := blk_frozen BK475.out 3
              go_wp2
              repeat (go_quiet (fail);try go_wp2)
              go_meet
              case rel=>(try rw [← Nbq14.out]);exact ⟨_,(true),q4_,H',⟨q96_⟩,⟨q77_⟩,⟨q83_⟩,⟨q17_⟩⟩
            ·rw [if_neg c24] at H
             have c24b0 : (((rd_T35 t470 x6_2).f2) == t477) = false := beq_eq_false_iff_ne.mpr c24
             have c24b1 : (((rd_T35 t470 x6_2).f2) != t477) = true := bne_iff_ne.mpr c24
             have H' := Aside0.mk H
             clear H
             have hcz30_0 : w21.cell? ⟨gb475,0,none⟩ = some (.bool true) := (blk_cell BK475.out 0).trans rfl
             have hcz30_1 : w21.cell? ⟨gb475,1,none⟩ = some (.string ((rd_T35 t470 x6_2).f1)) := (blk_cell BK475.out 1).trans rfl
             have hcz30_2 : w21.cell? ⟨gb475,2,none⟩ = some (.int .i64 ((rd_T35 t470 x6_2).f2)) := (blk_cell BK475.out 2).trans rfl
             have hcz30_3 : w21.cell? ⟨gb475,3,none⟩ = some (.int .i64 ((rd_T35 t470 x6_2).f3)) := (blk_cell BK475.out 3).trans rfl
             have hfz30_0 := blk_frozen BK475.out 0
             have hfz30_1 := blk_frozen BK475.out 1
             have hfz30_2 := blk_frozen BK475.out 2
             have hfz30_3 := blk_frozen BK475.out 3
             go_wp2
             repeat (go_quiet (fail);try go_wp2)
             go_meet
             case rel=>(try rw [← Nbq14.out]);exact ⟨_,(true),q4_,H',⟨q96_⟩,⟨q77_⟩,⟨q83_⟩,⟨q17_⟩⟩
          case rest =>
           clear HC17
           try clear c1
           try clear q1
           try clear c2
           try clear p2
           try clear c3
           try clear c3b0
           try clear c3b1
           try clear p4
           try clear q4
           try clear hx4
           try clear c6
           try clear p6
           try clear c9
           try clear c10
           try clear c10b0
           try clear c10b1
           try clear c12
           try clear c12b0
           try clear c13
           try clear c13b0
           try clear q14
           try clear c15
           try clear c22
           try clear c22b0
           try clear c24
           try clear c24b0
           try clear c24b1
           try clear c25
           try clear c25b0
           try clear c25b1
           try clear c26
           try clear c26b0
           try clear hcz20_0
           try clear hcz20_1
           try clear hcz20_2
           try clear hcz20_3
           try clear hcz23_0
           try clear hcz23_1
           try clear hcz23_2
           try clear hcz23_3
           try clear hcz27_0
           try clear hcz27_1
           try clear hcz27_2
           try clear hcz27_3
           try clear hcz28_0
           try clear hcz28_1
           try clear hcz28_2
           try clear hcz28_3
           try clear hcz29_0
           try clear hcz29_1
           try clear hcz29_2
           try clear hcz29_3
           try clear hcz30_0
           try clear hcz30_1
           try clear hcz30_2
           try clear hcz30_3
           try clear hfz20_0
           try clear hfz20_1
           try clear hfz20_2
           try clear hfz20_3
           try clear hfz23_0
           try clear hfz23_1
           try clear hfz23_2
           try clear hfz23_3
           try clear hfz27_0
           try clear hfz27_1
           try clear hfz27_2
           try clear hfz27_3
           try clear hfz28_0
           try clear hfz28_1
           try clear hfz28_2
           try clear hfz28_3
           try clear hfz29_0
           try clear hfz29_1
           try clear hfz29_2
           try clear hfz29_3
           try clear hfz30_0
           try clear hfz30_1
           try clear hfz30_2
           try clear hfz30_3
           try clear hx474_0
           try clear hx474_1
           try clear hx474_2
           try clear hx474_3
           try clear p2
           try clear p474
           try clear q474
           obtain ⟨kq,x117_16,rfl,HA,HJ16,HO_3,BK475,HB⟩ := hcut
           cases kq with
           | zero=>exact absurd HA.out (by simp [batonlaw03_SnappyEach.j2])
           | succ kj16 =>
            have H := HA.out
            clear HA
            simp only [batonlaw03_SnappyEach.j2] at H
            by_cases c31 : x117_16 = true
            ·subst c31
             have H1 : (some false) = some r := by rw [if_pos rfl] at H;exact H
             clear H
             have H := H1
             clear H1
             obtain rfl := Option.some.inj H
             go_wp2
             repeat (go_quiet (fail);try go_wp2)
             go_ret
             exact ⟨q1_,q17_⟩
            ·replace c31 := Bool.eq_false_iff.mpr c31
             subst c31
             have H1 : (if ((rd_T35 t470 x6_2).f3) < 64 then (if (wrap64 (x5_2 + ((rd_T35 t470 x6_2).f3))) < (a0.size : Int) then (if 0 ≤ (wrap64 (x5_2 + ((rd_T35 t470 x6_2).f3))) then (if 0 ≤ (wrap64 ((wrap64 (x5_2 + ((rd_T35 t470 x6_2).f3))) - ((rd_T35 t470 x6_2).f2))) then (if (wrap64 ((wrap64 (x5_2 + ((rd_T35 t470 x6_2).f3))) - ((rd_T35 t470 x6_2).f2))) < (a0.size : Int) then (if (bt a0 (wrap64 (x5_2 + ((rd_T35 t470 x6_2).f3)))) = (bt a0 (wrap64 ((wrap64 (x5_2 + ((rd_T35 t470 x6_2).f3))) - ((rd_T35 t470 x6_2).f2)))) then (some false) else (batonlaw03_SnappyEach.l0 kj16 a0 t470 (wrap64 (x5_2 + ((rd_T35 t470 x6_2).f3))) (wrap64 (x6_2 + 1)))) else (none)) else (none)) else (none)) else (batonlaw03_SnappyEach.l0 kj16 a0 t470 (wrap64 (x5_2 + ((rd_T35 t470 x6_2).f3))) (wrap64 (x6_2 + 1)))) else (batonlaw03_SnappyEach.l0 kj16 a0 t470 (wrap64 (x5_2 + ((rd_T35 t470 x6_2).f3))) (wrap64 (x6_2 + 1)))) = some r := by rw [if_neg (show ¬ (false = true) by decide)] at H;exact H
             clear H
             have H := H1
             clear H1
             by_cases c32 : ((rd_T35 t470 x6_2).f3) < 64
             ·rw [if_pos c32] at H
              have c32b0 : decide (((rd_T35 t470 x6_2).f3) < 64) = true := decide_eq_true c32
              clear c32
              by_cases c33 : (wrap64 (x5_2 + ((rd_T35 t470 x6_2).f3))) < (a0.size : Int)
              ·rw [if_pos c33] at H
               have c33b0 : decide ((wrap64 (x5_2 + ((rd_T35 t470 x6_2).f3))) < (a0.size : Int)) = true := decide_eq_true c33
               clear c33
               obtain ⟨ji34,hji34⟩ : ∃ j_ : Int,(wrap64 (x5_2 + ((rd_T35 t470 x6_2).f3))) = j_ := ⟨_,rfl⟩
               replace H : (if 0 ≤ (ji34) then (if 0 ≤ (wrap64 ((ji34) - ((rd_T35 t470 x6_2).f2))) then (if (wrap64 ((ji34) - ((rd_T35 t470 x6_2).f2))) < (a0.size : Int) then (if (bt a0 (ji34)) = (bt a0 (wrap64 ((ji34) - ((rd_T35 t470 x6_2).f2)))) then (some false) else (batonlaw03_SnappyEach.l0 kj16 a0 t470 ji34 (wrap64 (x6_2 + 1)))) else (none)) else (none)) else (none)) = some r := by first|(rw [hji34] at H;exact H)|(simp only [hji34] at H ⊢;exact H)
               (try rw [hji34] at c33b0)
               have hji34w : (IntKind.i64.wrap (x5_2 + ((rd_T35 t470 x6_2).f3))) = ji34 := (i64_w _).trans hji34
               by_cases c35 : 0 ≤ (ji34)
               ·rw [if_pos c35] at H
                have c35b0 : decide (0 ≤ (ji34)) = true := decide_eq_true c35
                clear c35
                obtain ⟨ji37,hji37⟩ : ∃ j_ : Int,(wrap64 ((ji34) - ((rd_T35 t470 x6_2).f2))) = j_ := ⟨_,rfl⟩
                replace H : (if 0 ≤ (ji37) then (if (ji37) < (a0.size : Int) then (if (bt a0 (ji34)) = (bt a0 (ji37)) then (some false) else (batonlaw03_SnappyEach.l0 kj16 a0 t470 ji34 (wrap64 (x6_2 + 1)))) else (none)) else (none)) = some r := by first|(rw [hji37] at H;exact H)|(simp only [hji37] at H ⊢;exact H)
                have hji37w : (IntKind.i64.wrap ((ji34) - ((rd_T35 t470 x6_2).f2))) = ji37 := (i64_w _).trans hji37
                by_cases c38 : 0 ≤ (ji37)
                ·rw [if_pos c38] at H
                 have c38b0 : decide (0 ≤ (ji37)) = true := decide_eq_true c38
                 clear c38
                 by_cases c39 : (ji37) < (a0.size : Int)
                 ·rw [if_pos c39] at H
                  have c39b0 : decide ((ji37) < (a0.size : Int)) = true := decide_eq_true c39
                  clear c39
                  by_cases c41 : (bt a0 (ji34)) = (bt a0 (ji37))
                  ·rw [if_pos c41] at H
                   have c41b0 : ((bt a0 (ji34)) == (bt a0 (ji37))) = true := beq_iff_eq.mpr c41
                   have c41b1 : ((bt a0 (ji34)) != (bt a0 (ji37))) = false := bne_eq_false_iff_eq.mpr c41
                   clear c41
                   obtain rfl := Option.some.inj H
                   have hcz42_0 : wc.cell? ⟨gb475,0,none⟩ = some (.bool true) := (blk_cell BK475.out 0).trans rfl
                   have hcz42_1 : wc.cell? ⟨gb475,1,none⟩ = some (.string ((rd_T35 t470 x6_2).f1)) := (blk_cell BK475.out 1).trans rfl
                   have hcz42_2 : wc.cell? ⟨gb475,2,none⟩ = some (.int .i64 ((rd_T35 t470 x6_2).f2)) := (blk_cell BK475.out 2).trans rfl
                   have hcz42_3 : wc.cell? ⟨gb475,3,none⟩ = some (.int .i64 ((rd_T35 t470 x6_2).f3)) := (blk_cell BK475.out 3).trans rfl
                   have hfz42_0 := blk_frozen BK475.out 0
                   have hfz42_1 := blk_frozen BK475.out 1
                   have hfz42_2 := blk_frozen BK475.out 2
                   have hfz42_3 := blk_frozen BK475.out 3
                   have p36 : 0 ≤ ((ji34) : Int) := of_decide_eq_true q3_
                   have q36 : (ji34) < (a0.size : Int) := of_decide_eq_true q3_
                   have hx36 := bt_at a0 (ji34)
                   replace p36 := eq_true p36
                   replace q36 := eq_true q36
                   have p40 : 0 ≤ ((ji37) : Int) := of_decide_eq_true q3_
                   have q40 : (ji37) < (a0.size : Int) := of_decide_eq_true q3_
                   have hx40 := bt_at a0 (ji37)
                   replace p40 := eq_true p40
                   replace q40 := eq_true q40
                   go_wp2
                   repeat (go_quiet (fail);try go_wp2)
                   go_ret
                   exact ⟨by first|rfl|(simp [errW_none,errW_some] <;> rfl)|(simp only [← hji34,← hji37];first|rfl|(simp [errW_none,errW_some] <;> rfl))|(simp [*,errW_none,errW_some] <;> rfl),q17_⟩
                  ·rw [if_neg c41] at H
                   have c41b0 : ((bt a0 (ji34)) == (bt a0 (ji37))) = false := beq_eq_false_iff_ne.mpr c41
                   have c41b1 : ((bt a0 (ji34)) != (bt a0 (ji37))) = true := bne_iff_ne.mpr c41
                   have H' := Aside0.mk H
                   clear H
                   have hcz43_0 : wc.cell? ⟨gb475,0,none⟩ = some (.bool true) := (blk_cell BK475.out 0).trans rfl
                   have hcz43_1 : wc.cell? ⟨gb475,1,none⟩ = some (.string ((rd_T35 t470 x6_2).f1)) := (blk_cell BK475.out 1).trans rfl
                   have hcz43_2 : wc.cell? ⟨gb475,2,none⟩ = some (.int .i64 ((rd_T35 t470 x6_2).f2)) := (blk_cell BK475.out 2).trans rfl
                   have hcz43_3 : wc.cell? ⟨gb475,3,none⟩ = some (.int .i64 ((rd_T35 t470 x6_2).f3)) := (blk_cell BK475.out 3).trans rfl
                   have hfz43_0 := blk_frozen BK475.out 0
                   have hfz43_1 := blk_frozen BK475.out 1
                   have hfz43_2 := blk_frozen BK475.out 2
                   have hfz43_3 := blk_frozen BK475.out 3
                   have p36 : 0 ≤ ((ji34) : Int) := of_decide_eq_true q3_
                   have q36 : (ji34) < (a0.size : Int) := of_decide_eq_true q3_
                   have hx36 := bt_at a0 (ji34)
                   replace p36 := eq_true p36
                   replace q36 := eq_true q36
                   have p40 : 0 ≤ ((ji37) : Int) := of_decide_eq_true q3_
                   have q40 : (ji37) < (a0.size : Int) := of_decide_eq_true q3_
                   have hx40 := bt_at a0 (ji37)
                   replace p40 := eq_true p40
                   replace q40 := eq_true q40
                   go_wp2
                   repeat (go_quiet (fail);try go_wp2)
                   go_roundg kj16
                   case measure=>have := HJ1.out;have := HK2.out;have := HJ16.out;omega
                   case rel=>exact ⟨(ji34),(wrap64 (x6_2 + 1)),(by first|rfl|(simp;done)|(simp only [← hji34] <;> (first|rfl|simp))|(simp [*];done)),q4_,H',⟨by have := HJ1.out;have := HK2.out;have := HJ16.out;omega⟩,⟨q97_⟩,⟨q17_⟩⟩
                 ·rw [if_neg c39] at H
                  exact absurd H (by simp)
                ·rw [if_neg c38] at H
                 exact absurd H (by simp)
               ·rw [if_neg c35] at H
                exact absurd H (by simp)
              ·rw [if_neg c33] at H
               have c33b0 : decide ((wrap64 (x5_2 + ((rd_T35 t470 x6_2).f3))) < (a0.size : Int)) = false := decide_eq_false c33
               clear c33
               have H' := Aside0.mk H
               clear H
               have hcz44_0 : wc.cell? ⟨gb475,0,none⟩ = some (.bool true) := (blk_cell BK475.out 0).trans rfl
               have hcz44_1 : wc.cell? ⟨gb475,1,none⟩ = some (.string ((rd_T35 t470 x6_2).f1)) := (blk_cell BK475.out 1).trans rfl
               have hcz44_2 : wc.cell? ⟨gb475,2,none⟩ = some (.int .i64 ((rd_T35 t470 x6_2).f2)) := (blk_cell BK475.out 2).trans rfl
               have hcz44_3 : wc.cell? ⟨gb475,3,none⟩ = some (.int .i64 ((rd_T35 t470 x6_2).f3)) := (blk_cell BK475.out 3).trans rfl
               have hfz44_0 := blk_frozen BK475.out 0
               have hfz44_1 := blk_frozen BK475.out 1
               have hfz44_2 := blk_frozen BK475.out 2
               have hfz44_3 := blk_frozen BK475.out 3
               go_wp2
               repeat (go_quiet (fail);try go_wp2)
               go_roundg kj16
               case measure=>have := HJ1.out;have := HK2.out;have := HJ16.out;omega
               case rel=>exact ⟨(wrap64 (x5_2 + ((rd_T35 t470 x6_2).f3))),(wrap64 (x6_2 + 1)),q4_,q4_,H',⟨by have := HJ1.out;have := HK2.out;have := HJ16.out;omega⟩,⟨q97_⟩,⟨q17_⟩⟩
             ·rw [if_neg c32] at H
              have c32b0 : decide (((rd_T35 t470 x6_2).f3) < 64) = false := decide_eq_false c32
              clear c32
              have H' := Aside0.mk H
              clear H
              have hcz45_0 : wc.cell? ⟨gb475,0,none⟩ = some (.bool true) := (blk_cell BK475.out 0).trans rfl
              have hcz45_1 : wc.cell? ⟨gb475,1,none⟩ = some (.string ((rd_T35 t470 x6_2).f1)) := (blk_cell BK475.out 1).trans rfl
              have hcz45_2 : wc.cell? ⟨gb475,2,none⟩ = some (.int .i64 ((rd_T35 t470 x6_2).f2)) := (blk_cell BK475.out 2).trans rfl
              have hcz45_3 : wc.cell? ⟨gb475,3,none⟩ = some (.int .i64 ((rd_T35 t470 x6_2).f3)) := (blk_cell BK475.out 3).trans rfl
              have hfz45_0 := blk_frozen BK475.out 0
              have hfz45_1 := blk_frozen BK475.out 1
              have hfz45_2 := blk_frozen BK475.out 2
              have hfz45_3 := blk_frozen BK475.out 3
              go_wp2
              repeat (go_quiet (fail);try go_wp2)
              go_roundg kj16
              case measure=>have := HJ1.out;have := HK2.out;have := HJ16.out;omega
              case rel=>exact ⟨(wrap64 (x5_2 + ((rd_T35 t470 x6_2).f3))),(wrap64 (x6_2 + 1)),q4_,q4_,H',⟨by have := HJ1.out;have := HK2.out;have := HJ16.out;omega⟩,⟨q97_⟩,⟨q17_⟩⟩
         ·replace c15 := Bool.eq_false_iff.mpr c15
          subst c15
          have H1 : (if x6_2 > 0 then (if 0 ≤ (wrap64 (x6_2 - 1)) then (if (wrap64 (x6_2 - 1)) < (t470.length : Int) then (if ((rd_T35 t470 (wrap64 (x6_2 - 1))).f0 = true) then (if ((rd_T35 t470 x6_2).f1).toList = ([] : List UInt8) then (some false) else (if (((rd_T35 t470 x6_2).f1).size : Int) > (wrap64 ((a0.size : Int) - x5_2)) then (some false) else (if 0 ≤ x5_2 then (if x5_2 ≤ (wrap64 (x5_2 + (((rd_T35 t470 x6_2).f1).size : Int))) then (if (wrap64 (x5_2 + (((rd_T35 t470 x6_2).f1).size : Int))) ≤ (a0.size : Int) then (if (a0.extract (x5_2 : Int).toNat ((wrap64 (x5_2 + (((rd_T35 t470 x6_2).f1).size : Int))) : Int).toNat).toList = ((rd_T35 t470 x6_2).f1).toList then (batonlaw03_SnappyEach.l0 k2 a0 t470 (wrap64 (x5_2 + (((rd_T35 t470 x6_2).f1).size : Int))) (wrap64 (x6_2 + 1))) else (some false)) else (none)) else (none)) else (none)))) else (some false)) else (none)) else (none)) else (if ((rd_T35 t470 x6_2).f1).toList = ([] : List UInt8) then (some false) else (if (((rd_T35 t470 x6_2).f1).size : Int) > (wrap64 ((a0.size : Int) - x5_2)) then (some false) else (if 0 ≤ x5_2 then (if x5_2 ≤ (wrap64 (x5_2 + (((rd_T35 t470 x6_2).f1).size : Int))) then (if (wrap64 (x5_2 + (((rd_T35 t470 x6_2).f1).size : Int))) ≤ (a0.size : Int) then (if (a0.extract (x5_2 : Int).toNat ((wrap64 (x5_2 + (((rd_T35 t470 x6_2).f1).size : Int))) : Int).toNat).toList = ((rd_T35 t470 x6_2).f1).toList then (batonlaw03_SnappyEach.l0 k2 a0 t470 (wrap64 (x5_2 + (((rd_T35 t470 x6_2).f1).size : Int))) (wrap64 (x6_2 + 1))) else (some false)) else (none)) else (none)) else (none))))) = some r := by rw [if_neg (show ¬ (false = true) by decide)] at H;exact H
          clear H
          have H := H1
          clear H1
          by_cases c46 : x6_2 > 0
          ·rw [if_pos c46] at H
           have c46b0 : decide (0 < x6_2) = true := decide_eq_true c46
           clear c46
           obtain ⟨ji47,hji47⟩ : ∃ j_ : Int,(wrap64 (x6_2 - 1)) = j_ := ⟨_,rfl⟩
           replace H : (if 0 ≤ (ji47) then (if (ji47) < (t470.length : Int) then (if ((rd_T35 t470 (ji47)).f0 = true) then (if ((rd_T35 t470 x6_2).f1).toList = ([] : List UInt8) then (some false) else (if (((rd_T35 t470 x6_2).f1).size : Int) > (wrap64 ((a0.size : Int) - x5_2)) then (some false) else (if 0 ≤ x5_2 then (if x5_2 ≤ (wrap64 (x5_2 + (((rd_T35 t470 x6_2).f1).size : Int))) then (if (wrap64 (x5_2 + (((rd_T35 t470 x6_2).f1).size : Int))) ≤ (a0.size : Int) then (if (a0.extract (x5_2 : Int).toNat ((wrap64 (x5_2 + (((rd_T35 t470 x6_2).f1).size : Int))) : Int).toNat).toList = ((rd_T35 t470 x6_2).f1).toList then (batonlaw03_SnappyEach.l0 k2 a0 t470 (wrap64 (x5_2 + (((rd_T35 t470 x6_2).f1).size : Int))) (wrap64 (x6_2 + 1))) else (some false)) else (none)) else (none)) else (none)))) else (some false)) else (none)) else (none)) = some r := by first|(rw [hji47] at H;exact H)|(simp only [hji47] at H ⊢;exact H)
           have hji47w : (IntKind.i64.wrap (x6_2 - 1)) = ji47 := (i64_w _).trans hji47
           by_cases c48 : 0 ≤ (ji47)
           ·rw [if_pos c48] at H
            have c48b0 : decide (0 ≤ (ji47)) = true := decide_eq_true c48
            clear c48
            by_cases c49 : (ji47) < (t470.length : Int)
            ·rw [if_pos c49] at H
             have c49b0 : decide ((ji47) < (t470.length : Int)) = true := decide_eq_true c49
             clear c49
             obtain ⟨bq50,hbq50⟩ : ∃ b_ : Bool,b_ = ((rd_T35 t470 (ji47)).f0) := ⟨_,rfl⟩
             replace H : (if (bq50 = true) then (if ((rd_T35 t470 x6_2).f1).toList = ([] : List UInt8) then (some false) else (if (((rd_T35 t470 x6_2).f1).size : Int) > (wrap64 ((a0.size : Int) - x5_2)) then (some false) else (if 0 ≤ x5_2 then (if x5_2 ≤ (wrap64 (x5_2 + (((rd_T35 t470 x6_2).f1).size : Int))) then (if (wrap64 (x5_2 + (((rd_T35 t470 x6_2).f1).size : Int))) ≤ (a0.size : Int) then (if (a0.extract (x5_2 : Int).toNat ((wrap64 (x5_2 + (((rd_T35 t470 x6_2).f1).size : Int))) : Int).toNat).toList = ((rd_T35 t470 x6_2).f1).toList then (batonlaw03_SnappyEach.l0 k2 a0 t470 (wrap64 (x5_2 + (((rd_T35 t470 x6_2).f1).size : Int))) (wrap64 (x6_2 + 1))) else (some false)) else (none)) else (none)) else (none)))) else (some false)) = some r := by rw [← hbq50] at H;exact H
             have Nbq50 := Aside0.mk hbq50
             clear hbq50
             by_cases c51 : (bq50 = true)
             ·subst c51
              have H1 : (if ((rd_T35 t470 x6_2).f1).toList = ([] : List UInt8) then (some false) else (if (((rd_T35 t470 x6_2).f1).size : Int) > (wrap64 ((a0.size : Int) - x5_2)) then (some false) else (if 0 ≤ x5_2 then (if x5_2 ≤ (wrap64 (x5_2 + (((rd_T35 t470 x6_2).f1).size : Int))) then (if (wrap64 (x5_2 + (((rd_T35 t470 x6_2).f1).size : Int))) ≤ (a0.size : Int) then (if (a0.extract (x5_2 : Int).toNat ((wrap64 (x5_2 + (((rd_T35 t470 x6_2).f1).size : Int))) : Int).toNat).toList = ((rd_T35 t470 x6_2).f1).toList then (batonlaw03_SnappyEach.l0 k2 a0 t470 (wrap64 (x5_2 + (((rd_T35 t470 x6_2).f1).size : Int))) (wrap64 (x6_2 + 1))) else (some false)) else (none)) else (none)) else (none)))) = some r := by rw [if_pos rfl] at H;exact H
              clear H
              have H := H1
              clear H1
              by_cases c52 : ((rd_T35 t470 x6_2).f1).toList = ([] : List UInt8)
              ·rw [if_pos c52] at H
               have c52b0 : (((rd_T35 t470 x6_2).f1).toList == ([] : List UInt8)) = true := beq_iff_eq.mpr c52
               have c52b1 : (((rd_T35 t470 x6_2).f1).toList != ([] : List UInt8)) = false := bne_eq_false_iff_eq.mpr c52
               clear c52
               obtain rfl := Option.some.inj H
               obtain ⟨Ao53,co53,eo53⟩ := Kd.R_slice HO_3.out
               subst eo53
               have p474 : 0 ≤ (x6_2 : Int) := of_decide_eq_true q3_
               have q474 : x6_2 < (t470.length : Int) := of_decide_eq_true q3_
               obtain ⟨ad474,e474,hx474_0,hx474_1,hx474_2,hx474_3⟩ := at_T35 (Kd.R_reads' HO_3.out).2.2 x6_2 p474 q474
               have p999 : 0 ≤ (ji47 : Int) := of_decide_eq_true c48b0
               have q999 : ji47 < (t470.length : Int) := of_decide_eq_true c49b0
               obtain ⟨ad999,e999,hx999_0,hx999_1,hx999_2,hx999_3⟩ := at_T35 (Kd.R_reads' HO_3.out).2.2 ji47 p999 q999
               (try rw [← Nbq50.out] at hx999_0)
               (try rw [← Nbq14.out] at hx474_0)
               (try rw [← Nbq50.out] at hx474_0)
               cases e474
               cases e999
               replace p999 := eq_true p999
               replace q999 := eq_true q999
               replace p474 := eq_true p474
               replace q474 := eq_true q474
               have hy999 := fun (n_ : Nat)=>((show Below wr.heap.size wr ((wr.alloc (Obj.cells #[.bool false,.string ((rd_T35 t470 x6_2).f1),.int .i64 ((rd_T35 t470 x6_2).f2),.int .i64 ((rd_T35 t470 x6_2).f3)] 35)).drewN n_) from by repeat (first|exact Below.refl _ _|apply below_alloc|apply pw_below_drewN)).cell (World.block_lt_of_cell? wr _ hx999_0)).trans hx999_0
               go_wp2_with (first|((with_reducible refine gate_dst (N := 7) rfl ?_);(try (refine gate_guard (by rfl) ?_;dsimp only));refine box_event ?hg (N := 7) ?hd (cs := #[.bool false,.string (⟨#[]⟩ : ByteArray),.int .i64 0,.int .i64 0]) (t := 35) ?hr ?_;(case hd=>rfl);(case hg=>rfl);(case hr=>first|(go_simp;done)|(go_simp;rfl)|(go_simp;simp [my_u8w];done));intro gb475 hg w54 hbox hb;have n0_ := Aside0.mk (Kd.R_below (Kd.R_elderB q19_ gb475 (Nat.le_of_eq hg.symm)) hb);have n1_ := Aside0.mk (below_step (bl_) hb);have n2_ := Aside0.mk (hbox);have n3_ := Aside0.mk ((by rw [hg];exact (below_size (bl_)) : w.heap.size ≤ gb475));have n4_ := Aside0.mk ((by rw [hg];exact (below_size (bl_)) : w.heap.size ≤ gb475));clear HO_3;clear HB;have HO_3 := n0_;have HB := n1_;have BK475 := n2_;have GW475 := n3_;have GE475 := n4_;clear n0_ n1_ n2_ n3_ n4_;clear hb hbox hg;have hcz55_0 : w54.cell? ⟨gb475,0,none⟩ = some (.bool false) := (blk_cell BK475.out 0).trans rfl;have hcz55_1 : w54.cell? ⟨gb475,1,none⟩ = some (.string (⟨#[]⟩ : ByteArray)) := (blk_cell BK475.out 1).trans rfl;have hcz55_2 : w54.cell? ⟨gb475,2,none⟩ = some (.int .i64 0) := (blk_cell BK475.out 2).trans rfl;have hcz55_3 : w54.cell? ⟨gb475,3,none⟩ = some (.int .i64 0) := (blk_cell BK475.out 3).trans rfl;have hfz55_0 := blk_frozen BK475.out 0;have hfz55_1 := blk_frozen BK475.out 1;have hfz55_2 := blk_frozen BK475.out 2;have hfz55_3 := blk_frozen BK475.out 3;have p476 : 0 ≤ ((ji47) : Int) := of_decide_eq_true q3_;have q476 : (ji47) < (t470.length : Int) := of_decide_eq_true q3_;obtain ⟨ad476,e476,hx476_0,hx476_1,hx476_2,hx476_3⟩ := at_T35 (Kd.R_reads' HO_3.out).2.2 (ji47) p476 q476;(try rw [← Nbq14.out] at hx476_0);(try rw [← Nbq50.out] at hx476_0);obtain rfl : ad474 = ad476 := q102_;have hn476_0 : ad474.block ≠ gb475 := Kd.own_blk (Kd.R_ne HO_3.out BK475.out (by decide));have hn476_1 : ad474.block ≠ gb475 := Kd.own_blk (Kd.R_ne HO_3.out BK475.out (by decide));have hn476_2 : ad474.block ≠ gb475 := Kd.own_blk (Kd.R_ne HO_3.out BK475.out (by decide));have hn476_3 : ad474.block ≠ gb475 := Kd.own_blk (Kd.R_ne HO_3.out BK475.out (by decide));replace hx476_0 := (cell_far (p := ⟨gb475,0,none⟩) q5_ (.bool false)).trans hx476_0;replace hx476_1 := (cell_far (p := ⟨gb475,0,none⟩) q5_ (.bool false)).trans hx476_1;replace hx476_2 := (cell_far (p := ⟨gb475,0,none⟩) q5_ (.bool false)).trans hx476_2;replace hx476_3 := (cell_far (p := ⟨gb475,0,none⟩) q5_ (.bool false)).trans hx476_3;replace hx476_0 := (cell_far (p := ⟨gb475,1,none⟩) q6_ (.string ((rd_T35 t470 x6_2).f1))).trans hx476_0;replace hx476_1 := (cell_far (p := ⟨gb475,1,none⟩) q6_ (.string ((rd_T35 t470 x6_2).f1))).trans hx476_1;replace hx476_2 := (cell_far (p := ⟨gb475,1,none⟩) q6_ (.string ((rd_T35 t470 x6_2).f1))).trans hx476_2;replace hx476_3 := (cell_far (p := ⟨gb475,1,none⟩) q6_ (.string ((rd_T35 t470 x6_2).f1))).trans hx476_3;replace hx476_0 := (cell_far (p := ⟨gb475,2,none⟩) q7_ (.int .i64 ((rd_T35 t470 x6_2).f2))).trans hx476_0;replace hx476_1 := (cell_far (p := ⟨gb475,2,none⟩) q7_ (.int .i64 ((rd_T35 t470 x6_2).f2))).trans hx476_1;replace hx476_2 := (cell_far (p := ⟨gb475,2,none⟩) q7_ (.int .i64 ((rd_T35 t470 x6_2).f2))).trans hx476_2;replace hx476_3 := (cell_far (p := ⟨gb475,2,none⟩) q7_ (.int .i64 ((rd_T35 t470 x6_2).f2))).trans hx476_3;replace hx476_0 := (cell_far (p := ⟨gb475,3,none⟩) q8_ (.int .i64 ((rd_T35 t470 x6_2).f3))).trans hx476_0;replace hx476_1 := (cell_far (p := ⟨gb475,3,none⟩) q8_ (.int .i64 ((rd_T35 t470 x6_2).f3))).trans hx476_1;replace hx476_2 := (cell_far (p := ⟨gb475,3,none⟩) q8_ (.int .i64 ((rd_T35 t470 x6_2).f3))).trans hx476_2;replace hx476_3 := (cell_far (p := ⟨gb475,3,none⟩) q8_ (.int .i64 ((rd_T35 t470 x6_2).f3))).trans hx476_3;(try have hy476_0 := fun (n_ : Nat)=>(show ((((((w54.drewN n_).setCell ⟨gb475,0,none⟩ (.bool false)).setCell ⟨gb475,1,none⟩ (.string ((rd_T35 t470 x6_2).f1))).setCell ⟨gb475,2,none⟩ (.int .i64 ((rd_T35 t470 x6_2).f2))).setCell ⟨gb475,3,none⟩ (.int .i64 ((rd_T35 t470 x6_2).f3)))).cell? _ = some _ from hx476_0));(try have hy476_1 := fun (n_ : Nat)=>(show ((((((w54.drewN n_).setCell ⟨gb475,0,none⟩ (.bool false)).setCell ⟨gb475,1,none⟩ (.string ((rd_T35 t470 x6_2).f1))).setCell ⟨gb475,2,none⟩ (.int .i64 ((rd_T35 t470 x6_2).f2))).setCell ⟨gb475,3,none⟩ (.int .i64 ((rd_T35 t470 x6_2).f3)))).cell? _ = some _ from hx476_1));(try have hy476_2 := fun (n_ : Nat)=>(show ((((((w54.drewN n_).setCell ⟨gb475,0,none⟩ (.bool false)).setCell ⟨gb475,1,none⟩ (.string ((rd_T35 t470 x6_2).f1))).setCell ⟨gb475,2,none⟩ (.int .i64 ((rd_T35 t470 x6_2).f2))).setCell ⟨gb475,3,none⟩ (.int .i64 ((rd_T35 t470 x6_2).f3)))).cell? _ = some _ from hx476_2));(try have hy476_3 := fun (n_ : Nat)=>(show ((((((w54.drewN n_).setCell ⟨gb475,0,none⟩ (.bool false)).setCell ⟨gb475,1,none⟩ (.string ((rd_T35 t470 x6_2).f1))).setCell ⟨gb475,2,none⟩ (.int .i64 ((rd_T35 t470 x6_2).f2))).setCell ⟨gb475,3,none⟩ (.int .i64 ((rd_T35 t470 x6_2).f3)))).cell? _ = some _ from hx476_3));clear hn476_0;clear hn476_1;clear hn476_2;clear hn476_3;replace p476 := eq_true p476;replace q476 := eq_true q476))
               repeat (go_quiet (first|((with_reducible refine gate_dst (N := 7) rfl ?_);(try (refine gate_guard (by rfl) ?_;dsimp only));refine box_event ?hg (N := 7) ?hd (cs := #[.bool false,.string (⟨#[]⟩ : ByteArray),.int .i64 0,.int .i64 0]) (t := 35) ?hr ?_;(case hd=>rfl);(case hg=>rfl);(case hr=>first|(go_simp;done)|(go_simp;rfl)|(go_simp;simp [my_u8w];done));intro gb475 hg w54 hbox hb;have n0_ := Aside0.mk (Kd.R_below (Kd.R_elderB q19_ gb475 (Nat.le_of_eq hg.symm)) hb);have n1_ := Aside0.mk (below_step (bl_) hb);have n2_ := Aside0.mk (hbox);have n3_ := Aside0.mk ((by rw [hg];exact (below_size (bl_)) : w.heap.size ≤ gb475));have n4_ := Aside0.mk ((by rw [hg];exact (below_size (bl_)) : w.heap.size ≤ gb475));clear HO_3;clear HB;have HO_3 := n0_;have HB := n1_;have BK475 := n2_;have GW475 := n3_;have GE475 := n4_;clear n0_ n1_ n2_ n3_ n4_;clear hb hbox hg;have hcz55_0 : w54.cell? ⟨gb475,0,none⟩ = some (.bool false) := (blk_cell BK475.out 0).trans rfl;have hcz55_1 : w54.cell? ⟨gb475,1,none⟩ = some (.string (⟨#[]⟩ : ByteArray)) := (blk_cell BK475.out 1).trans rfl;have hcz55_2 : w54.cell? ⟨gb475,2,none⟩ = some (.int .i64 0) := (blk_cell BK475.out 2).trans rfl;have hcz55_3 : w54.cell? ⟨gb475,3,none⟩ = some (.int .i64 0) := (blk_cell BK475.out 3).trans rfl;have hfz55_0 := blk_frozen BK475.out 0;have hfz55_1 := blk_frozen BK475.out 1;have hfz55_2 := blk_frozen BK475.out 2;have hfz55_3 := blk_frozen BK475.out 3;have p476 : 0 ≤ ((ji47) : Int) := of_decide_eq_true q3_;have q476 : (ji47) < (t470.length : Int) := of_decide_eq_true q3_;obtain ⟨ad476,e476,hx476_0,hx476_1,hx476_2,hx476_3⟩ := at_T35 (Kd.R_reads' HO_3.out).2.2 (ji47) p476 q476;(try rw [← Nbq14.out] at hx476_0);(try rw [← Nbq50.out] at hx476_0);obtain rfl : ad474 = ad476 := q102_;have hn476_0 : ad474.block ≠ gb475 := Kd.own_blk (Kd.R_ne HO_3.out BK475.out (by decide));have hn476_1 : ad474.block ≠ gb475 := Kd.own_blk (Kd.R_ne HO_3.out BK475.out (by decide));have hn476_2 : ad474.block ≠ gb475 := Kd.own_blk (Kd.R_ne HO_3.out BK475.out (by decide));have hn476_3 : ad474.block ≠ gb475 := Kd.own_blk (Kd.R_ne HO_3.out BK475.out (by decide));replace hx476_0 := (cell_far (p := ⟨gb475,0,none⟩) q5_ (.bool false)).trans hx476_0;replace hx476_1 := (cell_far (p := ⟨gb475,0,none⟩) q5_ (.bool false)).trans hx476_1;replace hx476_2 := (cell_far (p := ⟨gb475,0,none⟩) q5_ (.bool false)).trans hx476_2;replace hx476_3 := (cell_far (p := ⟨gb475,0,none⟩) q5_ (.bool false)).trans hx476_3;replace hx476_0 := (cell_far (p := ⟨gb475,1,none⟩) q6_ (.string ((rd_T35 t470 x6_2).f1))).trans hx476_0;replace hx476_1 := (cell_far (p := ⟨gb475,1,none⟩) q6_ (.string ((rd_T35 t470 x6_2).f1))).trans hx476_1;replace hx476_2 := (cell_far (p := ⟨gb475,1,none⟩) q6_ (.string ((rd_T35 t470 x6_2).f1))).trans hx476_2;replace hx476_3 := (cell_far (p := ⟨gb475,1,none⟩) q6_ (.string ((rd_T35 t470 x6_2).f1))).trans hx476_3;replace hx476_0 := (cell_far (p := ⟨gb475,2,none⟩) q7_ (.int .i64 ((rd_T35 t470 x6_2).f2))).trans hx476_0;replace hx476_1 := (cell_far (p := ⟨gb475,2,none⟩) q7_ (.int .i64 ((rd_T35 t470 x6_2).f2))).trans hx476_1;replace hx476_2 := (cell_far (p := ⟨gb475,2,none⟩) q7_ (.int .i64 ((rd_T35 t470 x6_2).f2))).trans hx476_2;replace hx476_3 := (cell_far (p := ⟨gb475,2,none⟩) q7_ (.int .i64 ((rd_T35 t470 x6_2).f2))).trans hx476_3;replace hx476_0 := (cell_far (p := ⟨gb475,3,none⟩) q8_ (.int .i64 ((rd_T35 t470 x6_2).f3))).trans hx476_0;replace hx476_1 := (cell_far (p := ⟨gb475,3,none⟩) q8_ (.int .i64 ((rd_T35 t470 x6_2).f3))).trans hx476_1;replace hx476_2 := (cell_far (p := ⟨gb475,3,none⟩) q8_ (.int .i64 ((rd_T35 t470 x6_2).f3))).trans hx476_2;replace hx476_3 := (cell_far (p := ⟨gb475,3,none⟩) q8_ (.int .i64 ((rd_T35 t470 x6_2).f3))).trans hx476_3;(try have hy476_0 := fun (n_ : Nat)=>(show ((((((w54.drewN n_).setCell ⟨gb475,0,none⟩ (.bool false)).setCell ⟨gb475,1,none⟩ (.string ((rd_T35 t470 x6_2).f1))).setCell ⟨gb475,2,none⟩ (.int .i64 ((rd_T35 t470 x6_2).f2))).setCell ⟨gb475,3,none⟩ (.int .i64 ((rd_T35 t470 x6_2).f3)))).cell? _ = some _ from hx476_0));(try have hy476_1 := fun (n_ : Nat)=>(show ((((((w54.drewN n_).setCell ⟨gb475,0,none⟩ (.bool false)).setCell ⟨gb475,1,none⟩ (.string ((rd_T35 t470 x6_2).f1))).setCell ⟨gb475,2,none⟩ (.int .i64 ((rd_T35 t470 x6_2).f2))).setCell ⟨gb475,3,none⟩ (.int .i64 ((rd_T35 t470 x6_2).f3)))).cell? _ = some _ from hx476_1));(try have hy476_2 := fun (n_ : Nat)=>(show ((((((w54.drewN n_).setCell ⟨gb475,0,none⟩ (.bool false)).setCell ⟨gb475,1,none⟩ (.string ((rd_T35 t470 x6_2).f1))).setCell ⟨gb475,2,none⟩ (.int .i64 ((rd_T35 t470 x6_2).f2))).setCell ⟨gb475,3,none⟩ (.int .i64 ((rd_T35 t470 x6_2).f3)))).cell? _ = some _ from hx476_2));(try have hy476_3 := fun (n_ : Nat)=>(show ((((((w54.drewN n_).setCell ⟨gb475,0,none⟩ (.bool false)).setCell ⟨gb475,1,none⟩ (.string ((rd_T35 t470 x6_2).f1))).setCell ⟨gb475,2,none⟩ (.int .i64 ((rd_T35 t470 x6_2).f2))).setCell ⟨gb475,3,none⟩ (.int .i64 ((rd_T35 t470 x6_2).f3)))).cell? _ = some _ from hx476_3));clear hn476_0;clear hn476_1;clear hn476_2;clear hn476_3;replace p476 := eq_true p476;replace q476 := eq_true q476));try go_wp2_with (first|((with_reducible refine gate_dst (N := 7) rfl ?_);(try (refine gate_guard (by rfl) ?_;dsimp only));refine box_event ?hg (N := 7) ?hd (cs := #[.bool false,.string (⟨#[]⟩ : ByteArray),.int .i64 0,.int .i64 0]) (t := 35) ?hr ?_;(case hd=>rfl);(case hg=>rfl);(case hr=>first|(go_simp;done)|(go_simp;rfl)|(go_simp;simp [my_u8w];done));intro gb475 hg w54 hbox hb;have n0_ := Aside0.mk (Kd.R_below (Kd.R_elderB q19_ gb475 (Nat.le_of_eq hg.symm)) hb);have n1_ := Aside0.mk (below_step (bl_) hb);have n2_ := Aside0.mk (hbox);have n3_ := Aside0.mk ((by rw [hg];exact (below_size (bl_)) : w.heap.size ≤ gb475));have n4_ := Aside0.mk ((by rw [hg];exact (below_size (bl_)) : w.heap.size ≤ gb475));clear HO_3;clear HB;have HO_3 := n0_;have HB := n1_;have BK475 := n2_;have GW475 := n3_;have GE475 := n4_;clear n0_ n1_ n2_ n3_ n4_;clear hb hbox hg;have hcz55_0 : w54.cell? ⟨gb475,0,none⟩ = some (.bool false) := (blk_cell BK475.out 0).trans rfl;have hcz55_1 : w54.cell? ⟨gb475,1,none⟩ = some (.string (⟨#[]⟩ : ByteArray)) := (blk_cell BK475.out 1).trans rfl;have hcz55_2 : w54.cell? ⟨gb475,2,none⟩ = some (.int .i64 0) := (blk_cell BK475.out 2).trans rfl;have hcz55_3 : w54.cell? ⟨gb475,3,none⟩ = some (.int .i64 0) := (blk_cell BK475.out 3).trans rfl;have hfz55_0 := blk_frozen BK475.out 0;have hfz55_1 := blk_frozen BK475.out 1;have hfz55_2 := blk_frozen BK475.out 2;have hfz55_3 := blk_frozen BK475.out 3;have p476 : 0 ≤ ((ji47) : Int) := of_decide_eq_true q3_;have q476 : (ji47) < (t470.length : Int) := of_decide_eq_true q3_;obtain ⟨ad476,e476,hx476_0,hx476_1,hx476_2,hx476_3⟩ := at_T35 (Kd.R_reads' HO_3.out).2.2 (ji47) p476 q476;(try rw [← Nbq14.out] at hx476_0);(try rw [← Nbq50.out] at hx476_0);obtain rfl : ad474 = ad476 := q102_;have hn476_0 : ad474.block ≠ gb475 := Kd.own_blk (Kd.R_ne HO_3.out BK475.out (by decide));have hn476_1 : ad474.block ≠ gb475 := Kd.own_blk (Kd.R_ne HO_3.out BK475.out (by decide));have hn476_2 : ad474.block ≠ gb475 := Kd.own_blk (Kd.R_ne HO_3.out BK475.out (by decide));have hn476_3 : ad474.block ≠ gb475 := Kd.own_blk (Kd.R_ne HO_3.out BK475.out (by decide));replace hx476_0 := (cell_far (p := ⟨gb475,0,none⟩) q5_ (.bool false)).trans hx476_0;replace hx476_1 := (cell_far (p := ⟨gb475,0,none⟩) q5_ (.bool false)).trans hx476_1;replace hx476_2 := (cell_far (p := ⟨gb475,0,none⟩) q5_ (.bool false)).trans hx476_2;replace hx476_3 := (cell_far (p := ⟨gb475,0,none⟩) q5_ (.bool false)).trans hx476_3;replace hx476_0 := (cell_far (p := ⟨gb475,1,none⟩) q6_ (.string ((rd_T35 t470 x6_2).f1))).trans hx476_0;replace hx476_1 := (cell_far (p := ⟨gb475,1,none⟩) q6_ (.string ((rd_T35 t470 x6_2).f1))).trans hx476_1;replace hx476_2 := (cell_far (p := ⟨gb475,1,none⟩) q6_ (.string ((rd_T35 t470 x6_2).f1))).trans hx476_2;replace hx476_3 := (cell_far (p := ⟨gb475,1,none⟩) q6_ (.string ((rd_T35 t470 x6_2).f1))).trans hx476_3;replace hx476_0 := (cell_far (p := ⟨gb475,2,none⟩) q7_ (.int .i64 ((rd_T35 t470 x6_2).f2))).trans hx476_0;replace hx476_1 := (cell_far (p := ⟨gb475,2,none⟩) q7_ (.int .i64 ((rd_T35 t470 x6_2).f2))).trans hx476_1;replace hx476_2 := (cell_far (p := ⟨gb475,2,none⟩) q7_ (.int .i64 ((rd_T35 t470 x6_2).f2))).trans hx476_2;replace hx476_3 := (cell_far (p := ⟨gb475,2,none⟩) q7_ (.int .i64 ((rd_T35 t470 x6_2).f2))).trans hx476_3;replace hx476_0 := (cell_far (p := ⟨gb475,3,none⟩) q8_ (.int .i64 ((rd_T35 t470 x6_2).f3))).trans hx476_0;replace hx476_1 := (cell_far (p := ⟨gb475,3,none⟩) q8_ (.int .i64 ((rd_T35 t470 x6_2).f3))).trans hx476_1;replace hx476_2 := (cell_far (p := ⟨gb475,3,none⟩) q8_ (.int .i64 ((rd_T35 t470 x6_2).f3))).trans hx476_2;replace hx476_3 := (cell_far (p := ⟨gb475,3,none⟩) q8_ (.int .i64 ((rd_T35 t470 x6_2).f3))).trans hx476_3;(try have hy476_0 := fun (n_ : Nat)=>(show ((((((w54.drewN n_).setCell ⟨gb475,0,none⟩ (.bool false)).setCell ⟨gb475,1,none⟩ (.string ((rd_T35 t470 x6_2).f1))).setCell ⟨gb475,2,none⟩ (.int .i64 ((rd_T35 t470 x6_2).f2))).setCell ⟨gb475,3,none⟩ (.int .i64 ((rd_T35 t470 x6_2).f3)))).cell? _ = some _ from hx476_0));(try have hy476_1 := fun (n_ : Nat)=>(show ((((((w54.drewN n_).setCell ⟨gb475,0,none⟩ (.bool false)).setCell ⟨gb475,1,none⟩ (.string ((rd_T35 t470 x6_2).f1))).setCell ⟨gb475,2,none⟩ (.int .i64 ((rd_T35 t470 x6_2).f2))).setCell ⟨gb475,3,none⟩ (.int .i64 ((rd_T35 t470 x6_2).f3)))).cell? _ = some _ from hx476_1));(try have hy476_2 := fun (n_ : Nat)=>(show ((((((w54.drewN n_).setCell ⟨gb475,0,none⟩ (.bool false)).setCell ⟨gb475,1,none⟩ (.string ((rd_T35 t470 x6_2).f1))).setCell ⟨gb475,2,none⟩ (.int .i64 ((rd_T35 t470 x6_2).f2))).setCell ⟨gb475,3,none⟩ (.int .i64 ((rd_T35 t470 x6_2).f3)))).cell? _ = some _ from hx476_2));(try have hy476_3 := fun (n_ : Nat)=>(show ((((((w54.drewN n_).setCell ⟨gb475,0,none⟩ (.bool false)).setCell ⟨gb475,1,none⟩ (.string ((rd_T35 t470 x6_2).f1))).setCell ⟨gb475,2,none⟩ (.int .i64 ((rd_T35 t470 x6_2).f2))).setCell ⟨gb475,3,none⟩ (.int .i64 ((rd_T35 t470 x6_2).f3)))).cell? _ = some _ from hx476_3));clear hn476_0;clear hn476_1;clear hn476_2;clear hn476_3;replace p476 := eq_true p476;replace q476 := eq_true q476)))
               go_ret
               exact ⟨q78_,q17_⟩
              ·rw [if_neg c52] at H
               have c52b0 : (((rd_T35 t470 x6_2).f1).toList == ([] : List UInt8)) = false := beq_eq_false_iff_ne.mpr c52
               have c52b1 : (((rd_T35 t470 x6_2).f1).toList != ([] : List UInt8)) = true := bne_iff_ne.mpr c52
               by_cases c56 : (((rd_T35 t470 x6_2).f1).size : Int) > (wrap64 ((a0.size : Int) - x5_2))
               ·rw [if_pos c56] at H
                have c56b0 : decide ((wrap64 ((a0.size : Int) - x5_2)) < (((rd_T35 t470 x6_2).f1).size : Int)) = true := decide_eq_true c56
                clear c56
                obtain rfl := Option.some.inj H
                obtain ⟨Ao57,co57,eo57⟩ := Kd.R_slice HO_3.out
                subst eo57
                have p474 : 0 ≤ (x6_2 : Int) := of_decide_eq_true q3_
                have q474 : x6_2 < (t470.length : Int) := of_decide_eq_true q3_
                obtain ⟨ad474,e474,hx474_0,hx474_1,hx474_2,hx474_3⟩ := at_T35 (Kd.R_reads' HO_3.out).2.2 x6_2 p474 q474
                have p999 : 0 ≤ (ji47 : Int) := of_decide_eq_true c48b0
                have q999 : ji47 < (t470.length : Int) := of_decide_eq_true c49b0
                obtain ⟨ad999,e999,hx999_0,hx999_1,hx999_2,hx999_3⟩ := at_T35 (Kd.R_reads' HO_3.out).2.2 ji47 p999 q999
                (try rw [← Nbq50.out] at hx999_0)
                (try rw [← Nbq14.out] at hx474_0)
                (try rw [← Nbq50.out] at hx474_0)
                cases e474
                cases e999
                replace p999 := eq_true p999
                replace q999 := eq_true q999
                replace p474 := eq_true p474
                replace q474 := eq_true q474
                have hy999 := fun (n_ : Nat)=>((show Below wr.heap.size wr ((wr.alloc (Obj.cells #[.bool false,.string ((rd_T35 t470 x6_2).f1),.int .i64 ((rd_T35 t470 x6_2).f2),.int .i64 ((rd_T35 t470 x6_2).f3)] 35)).drewN n_) from by repeat (first|exact Below.refl _ _|apply below_alloc|apply pw_below_drewN)).cell (World.block_lt_of_cell? wr _ hx999_0)).trans hx999_0
                go_wp2_with (first|((with_reducible refine gate_dst (N := 7) rfl ?_);(try (refine gate_guard (by rfl) ?_;dsimp only));refine box_event ?hg (N := 7) ?hd (cs := #[.bool false,.string (⟨#[]⟩ : ByteArray),.int .i64 0,.int .i64 0]) (t := 35) ?hr ?_;(case hd=>rfl);(case hg=>rfl);(case hr=>first|(go_simp;done)|(go_simp;rfl)|(go_simp;simp [my_u8w];done));intro gb475 hg w58 hbox hb;have n0_ := Aside0.mk (Kd.R_below (Kd.R_elderB q19_ gb475 (Nat.le_of_eq hg.symm)) hb);have n1_ := Aside0.mk (below_step (bl_) hb);have n2_ := Aside0.mk (hbox);have n3_ := Aside0.mk ((by rw [hg];exact (below_size (bl_)) : w.heap.size ≤ gb475));have n4_ := Aside0.mk ((by rw [hg];exact (below_size (bl_)) : w.heap.size ≤ gb475));clear HO_3;clear HB;have HO_3 := n0_;have HB := n1_;have BK475 := n2_;have GW475 := n3_;have GE475 := n4_;clear n0_ n1_ n2_ n3_ n4_;clear hb hbox hg;have hcz59_0 : w58.cell? ⟨gb475,0,none⟩ = some (.bool false) := (blk_cell BK475.out 0).trans rfl;have hcz59_1 : w58.cell? ⟨gb475,1,none⟩ = some (.string (⟨#[]⟩ : ByteArray)) := (blk_cell BK475.out 1).trans rfl;have hcz59_2 : w58.cell? ⟨gb475,2,none⟩ = some (.int .i64 0) := (blk_cell BK475.out 2).trans rfl;have hcz59_3 : w58.cell? ⟨gb475,3,none⟩ = some (.int .i64 0) := (blk_cell BK475.out 3).trans rfl;have hfz59_0 := blk_frozen BK475.out 0;have hfz59_1 := blk_frozen BK475.out 1;have hfz59_2 := blk_frozen BK475.out 2;have hfz59_3 := blk_frozen BK475.out 3;have p476 : 0 ≤ ((ji47) : Int) := of_decide_eq_true q3_;have q476 : (ji47) < (t470.length : Int) := of_decide_eq_true q3_;obtain ⟨ad476,e476,hx476_0,hx476_1,hx476_2,hx476_3⟩ := at_T35 (Kd.R_reads' HO_3.out).2.2 (ji47) p476 q476;(try rw [← Nbq14.out] at hx476_0);(try rw [← Nbq50.out] at hx476_0);obtain rfl : ad474 = ad476 := q102_;have hn476_0 : ad474.block ≠ gb475 := Kd.own_blk (Kd.R_ne HO_3.out BK475.out (by decide));have hn476_1 : ad474.block ≠ gb475 := Kd.own_blk (Kd.R_ne HO_3.out BK475.out (by decide));have hn476_2 : ad474.block ≠ gb475 := Kd.own_blk (Kd.R_ne HO_3.out BK475.out (by decide));have hn476_3 : ad474.block ≠ gb475 := Kd.own_blk (Kd.R_ne HO_3.out BK475.out (by decide));replace hx476_0 := (cell_far (p := ⟨gb475,0,none⟩) q5_ (.bool false)).trans hx476_0;replace hx476_1 := (cell_far (p := ⟨gb475,0,none⟩) q5_ (.bool false)).trans hx476_1;replace hx476_2 := (cell_far (p := ⟨gb475,0,none⟩) q5_ (.bool false)).trans hx476_2;replace hx476_3 := (cell_far (p := ⟨gb475,0,none⟩) q5_ (.bool false)).trans hx476_3;replace hx476_0 := (cell_far (p := ⟨gb475,1,none⟩) q6_ (.string ((rd_T35 t470 x6_2).f1))).trans hx476_0;replace hx476_1 := (cell_far (p := ⟨gb475,1,none⟩) q6_ (.string ((rd_T35 t470 x6_2).f1))).trans hx476_1;replace hx476_2 := (cell_far (p := ⟨gb475,1,none⟩) q6_ (.string ((rd_T35 t470 x6_2).f1))).trans hx476_2;replace hx476_3 := (cell_far (p := ⟨gb475,1,none⟩) q6_ (.string ((rd_T35 t470 x6_2).f1))).trans hx476_3;replace hx476_0 := (cell_far (p := ⟨gb475,2,none⟩) q7_ (.int .i64 ((rd_T35 t470 x6_2).f2))).trans hx476_0;replace hx476_1 := (cell_far (p := ⟨gb475,2,none⟩) q7_ (.int .i64 ((rd_T35 t470 x6_2).f2))).trans hx476_1;replace hx476_2 := (cell_far (p := ⟨gb475,2,none⟩) q7_ (.int .i64 ((rd_T35 t470 x6_2).f2))).trans hx476_2;replace hx476_3 := (cell_far (p := ⟨gb475,2,none⟩) q7_ (.int .i64 ((rd_T35 t470 x6_2).f2))).trans hx476_3;replace hx476_0 := (cell_far (p := ⟨gb475,3,none⟩) q8_ (.int .i64 ((rd_T35 t470 x6_2).f3))).trans hx476_0;replace hx476_1 := (cell_far (p := ⟨gb475,3,none⟩) q8_ (.int .i64 ((rd_T35 t470 x6_2).f3))).trans hx476_1;replace hx476_2 := (cell_far (p := ⟨gb475,3,none⟩) q8_ (.int .i64 ((rd_T35 t470 x6_2).f3))).trans hx476_2;replace hx476_3 := (cell_far (p := ⟨gb475,3,none⟩) q8_ (.int .i64 ((rd_T35 t470 x6_2).f3))).trans hx476_3;(try have hy476_0 := fun (n_ : Nat)=>(show ((((((w58.drewN n_).setCell ⟨gb475,0,none⟩ (.bool false)).setCell ⟨gb475,1,none⟩ (.string ((rd_T35 t470 x6_2).f1))).setCell ⟨gb475,2,none⟩ (.int .i64 ((rd_T35 t470 x6_2).f2))).setCell ⟨gb475,3,none⟩ (.int .i64 ((rd_T35 t470 x6_2).f3)))).cell? _ = some _ from hx476_0));(try have hy476_1 := fun (n_ : Nat)=>(show ((((((w58.drewN n_).setCell ⟨gb475,0,none⟩ (.bool false)).setCell ⟨gb475,1,none⟩ (.string ((rd_T35 t470 x6_2).f1))).setCell ⟨gb475,2,none⟩ (.int .i64 ((rd_T35 t470 x6_2).f2))).setCell ⟨gb475,3,none⟩ (.int .i64 ((rd_T35 t470 x6_2).f3)))).cell? _ = some _ from hx476_1));(try have hy476_2 := fun (n_ : Nat)=>(show ((((((w58.drewN n_).setCell ⟨gb475,0,none⟩ (.bool false)).setCell ⟨gb475,1,none⟩ (.string ((rd_T35 t470 x6_2).f1))).setCell ⟨gb475,2,none⟩ (.int .i64 ((rd_T35 t470 x6_2).f2))).setCell ⟨gb475,3,none⟩ (.int .i64 ((rd_T35 t470 x6_2).f3)))).cell? _ = some _ from hx476_2));(try have hy476_3 := fun (n_ : Nat)=>(show ((((((w58.drewN n_).setCell ⟨gb475,0,none⟩ (.bool false)).setCell ⟨gb475,1,none⟩ (.string ((rd_T35 t470 x6_2).f1))).setCell ⟨gb475,2,none⟩ (.int .i64 ((rd_T35 t470 x6_2).f2))).setCell ⟨gb475,3,none⟩ (.int .i64 ((rd_T35 t470 x6_2).f3)))).cell? _ = some _ from hx476_3));clear hn476_0;clear hn476_1;clear hn476_2;clear hn476_3;replace p476 := eq_true p476;replace q476 := eq_true q476))
                repeat (go_quiet (first|((with_reducible refine gate_dst (N := 7) rfl ?_);(try (refine gate_guard (by rfl) ?_;dsimp only));refine box_event ?hg (N := 7) ?hd (cs := #[.bool false,.string (⟨#[]⟩ : ByteArray),.int .i64 0,.int .i64 0]) (t := 35) ?hr ?_;(case hd=>rfl);(case hg=>rfl);(case hr=>first|(go_simp;done)|(go_simp;rfl)|(go_simp;simp [my_u8w];done));intro gb475 hg w58 hbox hb;have n0_ := Aside0.mk (Kd.R_below (Kd.R_elderB q19_ gb475 (Nat.le_of_eq hg.symm)) hb);have n1_ := Aside0.mk (below_step (bl_) hb);have n2_ := Aside0.mk (hbox);have n3_ := Aside0.mk ((by rw [hg];exact (below_size (bl_)) : w.heap.size ≤ gb475));have n4_ := Aside0.mk ((by rw [hg];exact (below_size (bl_)) : w.heap.size ≤ gb475));clear HO_3;clear HB;have HO_3 := n0_;have HB := n1_;have BK475 := n2_;have GW475 := n3_;have GE475 := n4_;clear n0_ n1_ n2_ n3_ n4_;clear hb hbox hg;have hcz59_0 : w58.cell? ⟨gb475,0,none⟩ = some (.bool false) := (blk_cell BK475.out 0).trans rfl;have hcz59_1 : w58.cell? ⟨gb475,1,none⟩ = some (.string (⟨#[]⟩ : ByteArray)) := (blk_cell BK475.out 1).trans rfl;have hcz59_2 : w58.cell? ⟨gb475,2,none⟩ = some (.int .i64 0) := (blk_cell BK475.out 2).trans rfl;have hcz59_3 : w58.cell? ⟨gb475,3,none⟩ = some (.int .i64 0) := (blk_cell BK475.out 3).trans rfl;have hfz59_0 := blk_frozen BK475.out 0;have hfz59_1 := blk_frozen BK475.out 1;have hfz59_2 := blk_frozen BK475.out 2;have hfz59_3 := blk_frozen BK475.out 3;have p476 : 0 ≤ ((ji47) : Int) := of_decide_eq_true q3_;have q476 : (ji47) < (t470.length : Int) := of_decide_eq_true q3_;obtain ⟨ad476,e476,hx476_0,hx476_1,hx476_2,hx476_3⟩ := at_T35 (Kd.R_reads' HO_3.out).2.2 (ji47) p476 q476;(try rw [← Nbq14.out] at hx476_0);(try rw [← Nbq50.out] at hx476_0);obtain rfl : ad474 = ad476 := q102_;have hn476_0 : ad474.block ≠ gb475 := Kd.own_blk (Kd.R_ne HO_3.out BK475.out (by decide));have hn476_1 : ad474.block ≠ gb475 := Kd.own_blk (Kd.R_ne HO_3.out BK475.out (by decide));have hn476_2 : ad474.block ≠ gb475 := Kd.own_blk (Kd.R_ne HO_3.out BK475.out (by decide));have hn476_3 : ad474.block ≠ gb475 := Kd.own_blk (Kd.R_ne HO_3.out BK475.out (by decide));replace hx476_0 := (cell_far (p := ⟨gb475,0,none⟩) q5_ (.bool false)).trans hx476_0;replace hx476_1 := (cell_far (p := ⟨gb475,0,none⟩) q5_ (.bool false)).trans hx476_1;replace hx476_2 := (cell_far (p := ⟨gb475,0,none⟩) q5_ (.bool false)).trans hx476_2;replace hx476_3 := (cell_far (p := ⟨gb475,0,none⟩) q5_ (.bool false)).trans hx476_3;replace hx476_0 := (cell_far (p := ⟨gb475,1,none⟩) q6_ (.string ((rd_T35 t470 x6_2).f1))).trans hx476_0;replace hx476_1 := (cell_far (p := ⟨gb475,1,none⟩) q6_ (.string ((rd_T35 t470 x6_2).f1))).trans hx476_1;replace hx476_2 := (cell_far (p := ⟨gb475,1,none⟩) q6_ (.string ((rd_T35 t470 x6_2).f1))).trans hx476_2;replace hx476_3 := (cell_far (p := ⟨gb475,1,none⟩) q6_ (.string ((rd_T35 t470 x6_2).f1))).trans hx476_3;replace hx476_0 := (cell_far (p := ⟨gb475,2,none⟩) q7_ (.int .i64 ((rd_T35 t470 x6_2).f2))).trans hx476_0;replace hx476_1 := (cell_far (p := ⟨gb475,2,none⟩) q7_ (.int .i64 ((rd_T35 t470 x6_2).f2))).trans hx476_1;replace hx476_2 := (cell_far (p := ⟨gb475,2,none⟩) q7_ (.int .i64 ((rd_T35 t470 x6_2).f2))).trans hx476_2;replace hx476_3 := (cell_far (p := ⟨gb475,2,none⟩) q7_ (.int .i64 ((rd_T35 t470 x6_2).f2))).trans hx476_3;replace hx476_0 := (cell_far (p := ⟨gb475,3,none⟩) q8_ (.int .i64 ((rd_T35 t470 x6_2).f3))).trans hx476_0;replace hx476_1 := (cell_far (p := ⟨gb475,3,none⟩) q8_ (.int .i64 ((rd_T35 t470 x6_2).f3))).trans hx476_1;replace hx476_2 := (cell_far (p := ⟨gb475,3,none⟩) q8_ (.int .i64 ((rd_T35 t470 x6_2).f3))).trans hx476_2;replace hx476_3 := (cell_far (p := ⟨gb475,3,none⟩) q8_ (.int .i64 ((rd_T35 t470 x6_2).f3))).trans hx476_3;(try have hy476_0 := fun (n_ : Nat)=>(show ((((((w58.drewN n_).setCell ⟨gb475,0,none⟩ (.bool false)).setCell ⟨gb475,1,none⟩ (.string ((rd_T35 t470 x6_2).f1))).setCell ⟨gb475,2,none⟩ (.int .i64 ((rd_T35 t470 x6_2).f2))).setCell ⟨gb475,3,none⟩ (.int .i64 ((rd_T35 t470 x6_2).f3)))).cell? _ = some _ from hx476_0));(try have hy476_1 := fun (n_ : Nat)=>(show ((((((w58.drewN n_).setCell ⟨gb475,0,none⟩ (.bool false)).setCell ⟨gb475,1,none⟩ (.string ((rd_T35 t470 x6_2).f1))).setCell ⟨gb475,2,none⟩ (.int .i64 ((rd_T35 t470 x6_2).f2))).setCell ⟨gb475,3,none⟩ (.int .i64 ((rd_T35 t470 x6_2).f3)))).cell? _ = some _ from hx476_1));(try have hy476_2 := fun (n_ : Nat)=>(show ((((((w58.drewN n_).setCell ⟨gb475,0,none⟩ (.bool false)).setCell ⟨gb475,1,none⟩ (.string ((rd_T35 t470 x6_2).f1))).setCell ⟨gb475,2,none⟩ (.int .i64 ((rd_T35 t470 x6_2).f2))).setCell ⟨gb475,3,none⟩ (.int .i64 ((rd_T35 t470 x6_2).f3)))).cell? _ = some _ from hx476_2));(try have hy476_3 := fun (n_ : Nat)=>(show ((((((w58.drewN n_).setCell ⟨gb475,0,none⟩ (.bool false)).setCell ⟨gb475,1,none⟩ (.string ((rd_T35 t470 x6_2).f1))).setCell ⟨gb475,2,none⟩ (.int .i64 ((rd_T35 t470 x6_2).f2))).setCell ⟨gb475,3,none⟩ (.int .i64 ((rd_T35 t470 x6_2).f3)))).cell? _ = some _ from hx476_3));clear hn476_0;clear hn476_1;clear hn476_2;clear hn476_3;replace p476 := eq_true p476;replace q476 := eq_true q476));try go_wp2_with (first|((with_reducible refine gate_dst (N := 7) rfl ?_);(try (refine gate_guard (by rfl) ?_;dsimp only));refine box_event ?hg (N := 7) ?hd (cs := #[.bool false,.string (⟨#[]⟩ : ByteArray),.int .i64 0,.int .i64 0]) (t := 35) ?hr ?_;(case hd=>rfl);(case hg=>rfl);(case hr=>first|(go_simp;done)|(go_simp;rfl)|(go_simp;simp [my_u8w];done));intro gb475 hg w58 hbox hb;have n0_ := Aside0.mk (Kd.R_below (Kd.R_elderB q19_ gb475 (Nat.le_of_eq hg.symm)) hb);have n1_ := Aside0.mk (below_step (bl_) hb);have n2_ := Aside0.mk (hbox);have n3_ := Aside0.mk ((by rw [hg];exact (below_size (bl_)) : w.heap.size ≤ gb475));have n4_ := Aside0.mk ((by rw [hg];exact (below_size (bl_)) : w.heap.size ≤ gb475));clear HO_3;clear HB;have HO_3 := n0_;have HB := n1_;have BK475 := n2_;have GW475 := n3_;have GE475 := n4_;clear n0_ n1_ n2_ n3_ n4_;clear hb hbox hg;have hcz59_0 : w58.cell? ⟨gb475,0,none⟩ = some (.bool false) := (blk_cell BK475.out 0).trans rfl;have hcz59_1 : w58.cell? ⟨gb475,1,none⟩ = some (.string (⟨#[]⟩ : ByteArray)) := (blk_cell BK475.out 1).trans rfl;have hcz59_2 : w58.cell? ⟨gb475,2,none⟩ = some (.int .i64 0) := (blk_cell BK475.out 2).trans rfl;have hcz59_3 : w58.cell? ⟨gb475,3,none⟩ = some (.int .i64 0) := (blk_cell BK475.out 3).trans rfl;have hfz59_0 := blk_frozen BK475.out 0;have hfz59_1 := blk_frozen BK475.out 1;have hfz59_2 := blk_frozen BK475.out 2;have hfz59_3 := blk_frozen BK475.out 3;have p476 : 0 ≤ ((ji47) : Int) := of_decide_eq_true q3_;have q476 : (ji47) < (t470.length : Int) := of_decide_eq_true q3_;obtain ⟨ad476,e476,hx476_0,hx476_1,hx476_2,hx476_3⟩ := at_T35 (Kd.R_reads' HO_3.out).2.2 (ji47) p476 q476;(try rw [← Nbq14.out] at hx476_0);(try rw [← Nbq50.out] at hx476_0);obtain rfl : ad474 = ad476 := q102_;have hn476_0 : ad474.block ≠ gb475 := Kd.own_blk (Kd.R_ne HO_3.out BK475.out (by decide));have hn476_1 : ad474.block ≠ gb475 := Kd.own_blk (Kd.R_ne HO_3.out BK475.out (by decide));have hn476_2 : ad474.block ≠ gb475 := Kd.own_blk (Kd.R_ne HO_3.out BK475.out (by decide));have hn476_3 : ad474.block ≠ gb475 := Kd.own_blk (Kd.R_ne HO_3.out BK475.out (by decide));replace hx476_0 := (cell_far (p := ⟨gb475,0,none⟩) q5_ (.bool false)).trans hx476_0;replace hx476_1 := (cell_far (p := ⟨gb475,0,none⟩) q5_ (.bool false)).trans hx476_1;replace hx476_2 := (cell_far (p := ⟨gb475,0,none⟩) q5_ (.bool false)).trans hx476_2;replace hx476_3 := (cell_far (p := ⟨gb475,0,none⟩) q5_ (.bool false)).trans hx476_3;replace hx476_0 := (cell_far (p := ⟨gb475,1,none⟩) q6_ (.string ((rd_T35 t470 x6_2).f1))).trans hx476_0;replace hx476_1 := (cell_far (p := ⟨gb475,1,none⟩) q6_ (.string ((rd_T35 t470 x6_2).f1))).trans hx476_1;replace hx476_2 := (cell_far (p := ⟨gb475,1,none⟩) q6_ (.string ((rd_T35 t470 x6_2).f1))).trans hx476_2;replace hx476_3 := (cell_far (p := ⟨gb475,1,none⟩) q6_ (.string ((rd_T35 t470 x6_2).f1))).trans hx476_3;replace hx476_0 := (cell_far (p := ⟨gb475,2,none⟩) q7_ (.int .i64 ((rd_T35 t470 x6_2).f2))).trans hx476_0;replace hx476_1 := (cell_far (p := ⟨gb475,2,none⟩) q7_ (.int .i64 ((rd_T35 t470 x6_2).f2))).trans hx476_1;replace hx476_2 := (cell_far (p := ⟨gb475,2,none⟩) q7_ (.int .i64 ((rd_T35 t470 x6_2).f2))).trans hx476_2;replace hx476_3 := (cell_far (p := ⟨gb475,2,none⟩) q7_ (.int .i64 ((rd_T35 t470 x6_2).f2))).trans hx476_3;replace hx476_0 := (cell_far (p := ⟨gb475,3,none⟩) q8_ (.int .i64 ((rd_T35 t470 x6_2).f3))).trans hx476_0;replace hx476_1 := (cell_far (p := ⟨gb475,3,none⟩) q8_ (.int .i64 ((rd_T35 t470 x6_2).f3))).trans hx476_1;replace hx476_2 := (cell_far (p := ⟨gb475,3,none⟩) q8_ (.int .i64 ((rd_T35 t470 x6_2).f3))).trans hx476_2;replace hx476_3 := (cell_far (p := ⟨gb475,3,none⟩) q8_ (.int .i64 ((rd_T35 t470 x6_2).f3))).trans hx476_3;(try have hy476_0 := fun (n_ : Nat)=>(show ((((((w58.drewN n_).setCell ⟨gb475,0,none⟩ (.bool false)).setCell ⟨gb475,1,none⟩ (.string ((rd_T35 t470 x6_2).f1))).setCell ⟨gb475,2,none⟩ (.int .i64 ((rd_T35 t470 x6_2).f2))).setCell ⟨gb475,3,none⟩ (.int .i64 ((rd_T35 t470 x6_2).f3)))).cell? _ = some _ from hx476_0));(try have hy476_1 := fun (n_ : Nat)=>(show ((((((w58.drewN n_).setCell ⟨gb475,0,none⟩ (.bool false)).setCell ⟨gb475,1,none⟩ (.string ((rd_T35 t470 x6_2).f1))).setCell ⟨gb475,2,none⟩ (.int .i64 ((rd_T35 t470 x6_2).f2))).setCell ⟨gb475,3,none⟩ (.int .i64 ((rd_T35 t470 x6_2).f3)))).cell? _ = some _ from hx476_1));(try have hy476_2 := fun (n_ : Nat)=>(show ((((((w58.drewN n_).setCell ⟨gb475,0,none⟩ (.bool false)).setCell ⟨gb475,1,none⟩ (.string ((rd_T35 t470 x6_2).f1))).setCell ⟨gb475,2,none⟩ (.int .i64 ((rd_T35 t470 x6_2).f2))).setCell ⟨gb475,3,none⟩ (.int .i64 ((rd_T35 t470 x6_2).f3)))).cell? _ = some _ from hx476_2));(try have hy476_3 := fun (n_ : Nat)=>(show ((((((w58.drewN n_).setCell ⟨gb475,0,none⟩ (.bool false)).setCell ⟨gb475,1,none⟩ (.string ((rd_T35 t470 x6_2).f1))).setCell ⟨gb475,2,none⟩ (.int .i64 ((rd_T35 t470 x6_2).f2))).setCell ⟨gb475,3,none⟩ (.int .i64 ((rd_T35 t470 x6_2).f3)))).cell? _ = some _ from hx476_3));clear hn476_0;clear hn476_1;clear hn476_2;clear hn476_3;replace p476 := eq_true p476;replace q476 := eq_true q476)))
                go_ret
                exact ⟨q78_,q17_⟩
               ·rw [if_neg c56] at H
                have c56b0 : decide ((wrap64 ((a0.size : Int) - x5_2)) < (((rd_T35 t470 x6_2).f1).size : Int)) = false := decide_eq_false c56
                clear c56
                by_cases c60 : 0 ≤ x5_2
                ·rw [if_pos c60] at H
                 have c60b0 := eq_true c60
                 have c60b1 : decide (0 ≤ x5_2) = true := decide_eq_true c60
                 clear c60
                 by_cases c61 : x5_2 ≤ (wrap64 (x5_2 + (((rd_T35 t470 x6_2).f1).size : Int)))
                 ·rw [if_pos c61] at H
                  have c61b0 := eq_true c61
                  have c61b1 : decide (x5_2 ≤ (wrap64 (x5_2 + (((rd_T35 t470 x6_2).f1).size : Int)))) = true := decide_eq_true c61
                  by_cases c62 : (wrap64 (x5_2 + (((rd_T35 t470 x6_2).f1).size : Int))) ≤ (a0.size : Int)
                  ·rw [if_pos c62] at H
                   have c62b0 := eq_true c62
                   have c62b1 : decide ((wrap64 (x5_2 + (((rd_T35 t470 x6_2).f1).size : Int))) ≤ (a0.size : Int)) = true := decide_eq_true c62
                   by_cases c63 : (a0.extract (x5_2 : Int).toNat ((wrap64 (x5_2 + (((rd_T35 t470 x6_2).f1).size : Int))) : Int).toNat).toList = ((rd_T35 t470 x6_2).f1).toList
                   ·rw [if_pos c63] at H
                    have c63b0 : ((a0.extract (x5_2 : Int).toNat ((wrap64 (x5_2 + (((rd_T35 t470 x6_2).f1).size : Int))) : Int).toNat).toList == ((rd_T35 t470 x6_2).f1).toList) = true := beq_iff_eq.mpr c63
                    have c63b1 : ((a0.extract (x5_2 : Int).toNat ((wrap64 (x5_2 + (((rd_T35 t470 x6_2).f1).size : Int))) : Int).toNat).toList != ((rd_T35 t470 x6_2).f1).toList) = false := bne_eq_false_iff_eq.mpr c63
                    clear c63
                    have H' := Aside0.mk H
                    clear H
                    obtain ⟨Ao64,co64,eo64⟩ := Kd.R_slice HO_3.out
                    subst eo64
                    have p474 : 0 ≤ (x6_2 : Int) := of_decide_eq_true q3_
                    have q474 : x6_2 < (t470.length : Int) := of_decide_eq_true q3_
                    obtain ⟨ad474,e474,hx474_0,hx474_1,hx474_2,hx474_3⟩ := at_T35 (Kd.R_reads' HO_3.out).2.2 x6_2 p474 q474
                    have p999 : 0 ≤ (ji47 : Int) := of_decide_eq_true c48b0
                    have q999 : ji47 < (t470.length : Int) := of_decide_eq_true c49b0
                    obtain ⟨ad999,e999,hx999_0,hx999_1,hx999_2,hx999_3⟩ := at_T35 (Kd.R_reads' HO_3.out).2.2 ji47 p999 q999
                    (try rw [← Nbq50.out] at hx999_0)
                    (try rw [← Nbq14.out] at hx474_0)
                    (try rw [← Nbq50.out] at hx474_0)
                    cases e474
                    cases e999
                    replace p999 := eq_true p999
                    replace q999 := eq_true q999
                    replace p474 := eq_true p474
                    replace q474 := eq_true q474
                    have hy999 := fun (n_ : Nat)=>((show Below wr.heap.size wr ((wr.alloc (Obj.cells #[.bool false,.string ((rd_T35 t470 x6_2).f1),.int .i64 ((rd_T35 t470 x6_2).f2),.int .i64 ((rd_T35 t470 x6_2).f3)] 35)).drewN n_) from by repeat (first|exact Below.refl _ _|apply below_alloc|apply pw_below_drewN)).cell (World.block_lt_of_cell? wr _ hx999_0)).trans hx999_0
                    go_wp2_with (first|((with_reducible refine gate_dst (N := 7) rfl ?_);(try (refine gate_guard (by rfl) ?_;dsimp only));refine box_event ?hg (N := 7) ?hd (cs := #[.bool false,.string (⟨#[]⟩ : ByteArray),.int .i64 0,.int .i64 0]) (t := 35) ?hr ?_;(case hd=>rfl);(case hg=>rfl);(case hr=>first|(go_simp;done)|(go_simp;rfl)|(go_simp;simp [my_u8w];done));intro gb475 hg w65 hbox hb;have n0_ := Aside0.mk (Kd.R_below (Kd.R_elderB q19_ gb475 (Nat.le_of_eq hg.symm)) hb);have n1_ := Aside0.mk (below_step (bl_) hb);have n2_ := Aside0.mk (hbox);have n3_ := Aside0.mk ((by rw [hg];exact (below_size (bl_)) : w.heap.size ≤ gb475));have n4_ := Aside0.mk ((by rw [hg];exact (below_size (bl_)) : w.heap.size ≤ gb475));clear HO_3;clear HB;have HO_3 := n0_;have HB := n1_;have BK475 := n2_;have GW475 := n3_;have GE475 := n4_;clear n0_ n1_ n2_ n3_ n4_;clear hb hbox hg;have hcz66_0 : w65.cell? ⟨gb475,0,none⟩ = some (.bool false) := (blk_cell BK475.out 0).trans rfl;have hcz66_1 : w65.cell? ⟨gb475,1,none⟩ = some (.string (⟨#[]⟩ : ByteArray)) := (blk_cell BK475.out 1).trans rfl;have hcz66_2 : w65.cell? ⟨gb475,2,none⟩ = some (.int .i64 0) := (blk_cell BK475.out 2).trans rfl;have hcz66_3 : w65.cell? ⟨gb475,3,none⟩ = some (.int .i64 0) := (blk_cell BK475.out 3).trans rfl;have hfz66_0 := blk_frozen BK475.out 0;have hfz66_1 := blk_frozen BK475.out 1;have hfz66_2 := blk_frozen BK475.out 2;have hfz66_3 := blk_frozen BK475.out 3;have p476 : 0 ≤ ((ji47) : Int) := of_decide_eq_true q3_;have q476 : (ji47) < (t470.length : Int) := of_decide_eq_true q3_;obtain ⟨ad476,e476,hx476_0,hx476_1,hx476_2,hx476_3⟩ := at_T35 (Kd.R_reads' HO_3.out).2.2 (ji47) p476 q476;(try rw [← Nbq14.out] at hx476_0);(try rw [← Nbq50.out] at hx476_0);obtain rfl : ad474 = ad476 := q102_;have hn476_0 : ad474.block ≠ gb475 := Kd.own_blk (Kd.R_ne HO_3.out BK475.out (by decide));have hn476_1 : ad474.block ≠ gb475 := Kd.own_blk (Kd.R_ne HO_3.out BK475.out (by decide));have hn476_2 : ad474.block ≠ gb475 := Kd.own_blk (Kd.R_ne HO_3.out BK475.out (by decide));have hn476_3 : ad474.block ≠ gb475 := Kd.own_blk (Kd.R_ne HO_3.out BK475.out (by decide));replace hx476_0 := (cell_far (p := ⟨gb475,0,none⟩) q5_ (.bool false)).trans hx476_0;replace hx476_1 := (cell_far (p := ⟨gb475,0,none⟩) q5_ (.bool false)).trans hx476_1;replace hx476_2 := (cell_far (p := ⟨gb475,0,none⟩) q5_ (.bool false)).trans hx476_2;replace hx476_3 := (cell_far (p := ⟨gb475,0,none⟩) q5_ (.bool false)).trans hx476_3;replace hx476_0 := (cell_far (p := ⟨gb475,1,none⟩) q6_ (.string ((rd_T35 t470 x6_2).f1))).trans hx476_0;replace hx476_1 := (cell_far (p := ⟨gb475,1,none⟩) q6_ (.string ((rd_T35 t470 x6_2).f1))).trans hx476_1;replace hx476_2 := (cell_far (p := ⟨gb475,1,none⟩) q6_ (.string ((rd_T35 t470 x6_2).f1))).trans hx476_2;replace hx476_3 := (cell_far (p := ⟨gb475,1,none⟩) q6_ (.string ((rd_T35 t470 x6_2).f1))).trans hx476_3;replace hx476_0 := (cell_far (p := ⟨gb475,2,none⟩) q7_ (.int .i64 ((rd_T35 t470 x6_2).f2))).trans hx476_0;replace hx476_1 := (cell_far (p := ⟨gb475,2,none⟩) q7_ (.int .i64 ((rd_T35 t470 x6_2).f2))).trans hx476_1;replace hx476_2 := (cell_far (p := ⟨gb475,2,none⟩) q7_ (.int .i64 ((rd_T35 t470 x6_2).f2))).trans hx476_2;replace hx476_3 := (cell_far (p := ⟨gb475,2,none⟩) q7_ (.int .i64 ((rd_T35 t470 x6_2).f2))).trans hx476_3;replace hx476_0 := (cell_far (p := ⟨gb475,3,none⟩) q8_ (.int .i64 ((rd_T35 t470 x6_2).f3))).trans hx476_0;replace hx476_1 := (cell_far (p := ⟨gb475,3,none⟩) q8_ (.int .i64 ((rd_T35 t470 x6_2).f3))).trans hx476_1;replace hx476_2 := (cell_far (p := ⟨gb475,3,none⟩) q8_ (.int .i64 ((rd_T35 t470 x6_2).f3))).trans hx476_2;replace hx476_3 := (cell_far (p := ⟨gb475,3,none⟩) q8_ (.int .i64 ((rd_T35 t470 x6_2).f3))).trans hx476_3;(try have hy476_0 := fun (n_ : Nat)=>(show ((((((w65.drewN n_).setCell ⟨gb475,0,none⟩ (.bool false)).setCell ⟨gb475,1,none⟩ (.string ((rd_T35 t470 x6_2).f1))).setCell ⟨gb475,2,none⟩ (.int .i64 ((rd_T35 t470 x6_2).f2))).setCell ⟨gb475,3,none⟩ (.int .i64 ((rd_T35 t470 x6_2).f3)))).cell? _ = some _ from hx476_0));(try have hy476_1 := fun (n_ : Nat)=>(show ((((((w65.drewN n_).setCell ⟨gb475,0,none⟩ (.bool false)).setCell ⟨gb475,1,none⟩ (.string ((rd_T35 t470 x6_2).f1))).setCell ⟨gb475,2,none⟩ (.int .i64 ((rd_T35 t470 x6_2).f2))).setCell ⟨gb475,3,none⟩ (.int .i64 ((rd_T35 t470 x6_2).f3)))).cell? _ = some _ from hx476_1));(try have hy476_2 := fun (n_ : Nat)=>(show ((((((w65.drewN n_).setCell ⟨gb475,0,none⟩ (.bool false)).setCell ⟨gb475,1,none⟩ (.string ((rd_T35 t470 x6_2).f1))).setCell ⟨gb475,2,none⟩ (.int .i64 ((rd_T35 t470 x6_2).f2))).setCell ⟨gb475,3,none⟩ (.int .i64 ((rd_T35 t470 x6_2).f3)))).cell? _ = some _ from hx476_2));(try have hy476_3 := fun (n_ : Nat)=>(show ((((((w65.drewN n_).setCell ⟨gb475,0,none⟩ (.bool false)).setCell ⟨gb475,1,none⟩ (.string ((rd_T35 t470 x6_2).f1))).setCell ⟨gb475,2,none⟩ (.int .i64 ((rd_T35 t470 x6_2).f2))).setCell ⟨gb475,3,none⟩ (.int .i64 ((rd_T35 t470 x6_2).f3)))).cell? _ = some _ from hx476_3));clear hn476_0;clear hn476_1;clear hn476_2;clear hn476_3;replace p476 := eq_true p476;replace q476 := eq_true q476))
                    repeat (go_quiet (first|((with_reducible refine gate_dst (N := 7) rfl ?_);(try (refine gate_guard (by rfl) ?_;dsimp only));refine box_event ?hg (N := 7) ?hd (cs := #[.bool false,.string (⟨#[]⟩ : ByteArray),.int .i64 0,.int .i64 0]) (t := 35) ?hr ?_;(case hd=>rfl);(case hg=>rfl);(case hr=>first|(go_simp;done)|(go_simp;rfl)|(go_simp;simp [my_u8w];done));intro gb475 hg w65 hbox hb;have n0_ := Aside0.mk (Kd.R_below (Kd.R_elderB q19_ gb475 (Nat.le_of_eq hg.symm)) hb);have n1_ := Aside0.mk (below_step (bl_) hb);have n2_ := Aside0.mk (hbox);have n3_ := Aside0.mk ((by rw [hg];exact (below_size (bl_)) : w.heap.size ≤ gb475));have n4_ := Aside0.mk ((by rw [hg];exact (below_size (bl_)) : w.heap.size ≤ gb475));clear HO_3;clear HB;have HO_3 := n0_;have HB := n1_;have BK475 := n2_;have GW475 := n3_;have GE475 := n4_;clear n0_ n1_ n2_ n3_ n4_;clear hb hbox hg;have hcz66_0 : w65.cell? ⟨gb475,0,none⟩ = some (.bool false) := (blk_cell BK475.out 0).trans rfl;have hcz66_1 : w65.cell? ⟨gb475,1,none⟩ = some (.string (⟨#[]⟩ : ByteArray)) := (blk_cell BK475.out 1).trans rfl;have hcz66_2 : w65.cell? ⟨gb475,2,none⟩ = some (.int .i64 0) := (blk_cell BK475.out 2).trans rfl;have hcz66_3 : w65.cell? ⟨gb475,3,none⟩ = some (.int .i64 0) := (blk_cell BK475.out 3).trans rfl;have hfz66_0 := blk_frozen BK475.out 0;have hfz66_1 := blk_frozen BK475.out 1;have hfz66_2 := blk_frozen BK475.out 2;have hfz66_3 := blk_frozen BK475.out 3;have p476 : 0 ≤ ((ji47) : Int) := of_decide_eq_true q3_;have q476 : (ji47) < (t470.length : Int) := of_decide_eq_true q3_;obtain ⟨ad476,e476,hx476_0,hx476_1,hx476_2,hx476_3⟩ := at_T35 (Kd.R_reads' HO_3.out).2.2 (ji47) p476 q476;(try rw [← Nbq14.out] at hx476_0);(try rw [← Nbq50.out] at hx476_0);obtain rfl : ad474 = ad476 := q102_;have hn476_0 : ad474.block ≠ gb475 := Kd.own_blk (Kd.R_ne HO_3.out BK475.out (by decide));have hn476_1 : ad474.block ≠ gb475 := Kd.own_blk (Kd.R_ne HO_3.out BK475.out (by decide));have hn476_2 : ad474.block ≠ gb475 := Kd.own_blk (Kd.R_ne HO_3.out BK475.out (by decide));have hn476_3 : ad474.block ≠ gb475 := Kd.own_blk (Kd.R_ne HO_3.out BK475.out (by decide));replace hx476_0 := (cell_far (p := ⟨gb475,0,none⟩) q5_ (.bool false)).trans hx476_0;replace hx476_1 := (cell_far (p := ⟨gb475,0,none⟩) q5_ (.bool false)).trans hx476_1;replace hx476_2 := (cell_far (p := ⟨gb475,0,none⟩) q5_ (.bool false)).trans hx476_2;replace hx476_3 := (cell_far (p := ⟨gb475,0,none⟩) q5_ (.bool false)).trans hx476_3;replace hx476_0 := (cell_far (p := ⟨gb475,1,none⟩) q6_ (.string ((rd_T35 t470 x6_2).f1))).trans hx476_0;replace hx476_1 := (cell_far (p := ⟨gb475,1,none⟩) q6_ (.string ((rd_T35 t470 x6_2).f1))).trans hx476_1;replace hx476_2 := (cell_far (p := ⟨gb475,1,none⟩) q6_ (.string ((rd_T35 t470 x6_2).f1))).trans hx476_2;replace hx476_3 := (cell_far (p := ⟨gb475,1,none⟩) q6_ (.string ((rd_T35 t470 x6_2).f1))).trans hx476_3;replace hx476_0 := (cell_far (p := ⟨gb475,2,none⟩) q7_ (.int .i64 ((rd_T35 t470 x6_2).f2))).trans hx476_0;replace hx476_1 := (cell_far (p := ⟨gb475,2,none⟩) q7_ (.int .i64 ((rd_T35 t470 x6_2).f2))).trans hx476_1;replace hx476_2 := (cell_far (p := ⟨gb475,2,none⟩) q7_ (.int .i64 ((rd_T35 t470 x6_2).f2))).trans hx476_2;replace hx476_3 := (cell_far (p := ⟨gb475,2,none⟩) q7_ (.int .i64 ((rd_T35 t470 x6_2).f2))).trans hx476_3;replace hx476_0 := (cell_far (p := ⟨gb475,3,none⟩) q8_ (.int .i64 ((rd_T35 t470 x6_2).f3))).trans hx476_0;replace hx476_1 := (cell_far (p := ⟨gb475,3,none⟩) q8_ (.int .i64 ((rd_T35 t470 x6_2).f3))).trans hx476_1;replace hx476_2 := (cell_far (p := ⟨gb475,3,none⟩) q8_ (.int .i64 ((rd_T35 t470 x6_2).f3))).trans hx476_2;replace hx476_3 := (cell_far (p := ⟨gb475,3,none⟩) q8_ (.int .i64 ((rd_T35 t470 x6_2).f3))).trans hx476_3;(try have hy476_0 := fun (n_ : Nat)=>(show ((((((w65.drewN n_).setCell ⟨gb475,0,none⟩ (.bool false)).setCell ⟨gb475,1,none⟩ (.string ((rd_T35 t470 x6_2).f1))).setCell ⟨gb475,2,none⟩ (.int .i64 ((rd_T35 t470 x6_2).f2))).setCell ⟨gb475,3,none⟩ (.int .i64 ((rd_T35 t470 x6_2).f3)))).cell? _ = some _ from hx476_0));(try have hy476_1 := fun (n_ : Nat)=>(show ((((((w65.drewN n_).setCell ⟨gb475,0,none⟩ (.bool false)).setCell ⟨gb475,1,none⟩ (.string ((rd_T35 t470 x6_2).f1))).setCell ⟨gb475,2,none⟩ (.int .i64 ((rd_T35 t470 x6_2).f2))).setCell ⟨gb475,3,none⟩ (.int .i64 ((rd_T35 t470 x6_2).f3)))).cell? _ = some _ from hx476_1));(try have hy476_2 := fun (n_ : Nat)=>(show ((((((w65.drewN n_).setCell ⟨gb475,0,none⟩ (.bool false)).setCell ⟨gb475,1,none⟩ (.string ((rd_T35 t470 x6_2).f1))).setCell ⟨gb475,2,none⟩ (.int .i64 ((rd_T35 t470 x6_2).f2))).setCell ⟨gb475,3,none⟩ (.int .i64 ((rd_T35 t470 x6_2).f3)))).cell? _ = some _ from hx476_2));(try have hy476_3 := fun (n_ : Nat)=>(show ((((((w65.drewN n_).setCell ⟨gb475,0,none⟩ (.bool false)).setCell ⟨gb475,1,none⟩ (.string ((rd_T35 t470 x6_2).f1))).setCell ⟨gb475,2,none⟩ (.int .i64 ((rd_T35 t470 x6_2).f2))).setCell ⟨gb475,3,none⟩ (.int .i64 ((rd_T35 t470 x6_2).f3)))).cell? _ = some _ from hx476_3));clear hn476_0;clear hn476_1;clear hn476_2;clear hn476_3;replace p476 := eq_true p476;replace q476 := eq_true q476));try go_wp2_with (first|((with_reducible refine gate_dst (N := 7) rfl ?_);(try (refine gate_guard (by rfl) ?_;dsimp only));refine box_event ?hg (N := 7) ?hd (cs := #[.bool false,.string (⟨#[]⟩ : ByteArray),.int .i64 0,.int .i64 0]) (t := 35) ?hr ?_;(case hd=>rfl);(case hg=>rfl);(case hr=>first|(go_simp;done)|(go_simp;rfl)|(go_simp;simp [my_u8w];done));intro gb475 hg w65 hbox hb;have n0_ := Aside0.mk (Kd.R_below (Kd.R_elderB q19_ gb475 (Nat.le_of_eq hg.symm)) hb);have n1_ := Aside0.mk (below_step (bl_) hb);have n2_ := Aside0.mk (hbox);have n3_ := Aside0.mk ((by rw [hg];exact (below_size (bl_)) : w.heap.size ≤ gb475));have n4_ := Aside0.mk ((by rw [hg];exact (below_size (bl_)) : w.heap.size ≤ gb475));clear HO_3;clear HB;have HO_3 := n0_;have HB := n1_;have BK475 := n2_;have GW475 := n3_;have GE475 := n4_;clear n0_ n1_ n2_ n3_ n4_;clear hb hbox hg;have hcz66_0 : w65.cell? ⟨gb475,0,none⟩ = some (.bool false) := (blk_cell BK475.out 0).trans rfl;have hcz66_1 : w65.cell? ⟨gb475,1,none⟩ = some (.string (⟨#[]⟩ : ByteArray)) := (blk_cell BK475.out 1).trans rfl;have hcz66_2 : w65.cell? ⟨gb475,2,none⟩ = some (.int .i64 0) := (blk_cell BK475.out 2).trans rfl;have hcz66_3 : w65.cell? ⟨gb475,3,none⟩ = some (.int .i64 0) := (blk_cell BK475.out 3).trans rfl;have hfz66_0 := blk_frozen BK475.out 0;have hfz66_1 := blk_frozen BK475.out 1;have hfz66_2 := blk_frozen BK475.out 2;have hfz66_3 := blk_frozen BK475.out 3;have p476 : 0 ≤ ((ji47) : Int) := of_decide_eq_true q3_;have q476 : (ji47) < (t470.length : Int) := of_decide_eq_true q3_;obtain ⟨ad476,e476,hx476_0,hx476_1,hx476_2,hx476_3⟩ := at_T35 (Kd.R_reads' HO_3.out).2.2 (ji47) p476 q476;(try rw [← Nbq14.out] at hx476_0);(try rw [← Nbq50.out] at hx476_0);obtain rfl : ad474 = ad476 := q102_;have hn476_0 : ad474.block ≠ gb475 := Kd.own_blk (Kd.R_ne HO_3.out BK475.out (by decide));have hn476_1 : ad474.block ≠ gb475 := Kd.own_blk (Kd.R_ne HO_3.out BK475.out (by decide));have hn476_2 : ad474.block ≠ gb475 := Kd.own_blk (Kd.R_ne HO_3.out BK475.out (by decide));have hn476_3 : ad474.block ≠ gb475 := Kd.own_blk (Kd.R_ne HO_3.out BK475.out (by decide));replace hx476_0 := (cell_far (p := ⟨gb475,0,none⟩) q5_ (.bool false)).trans hx476_0;replace hx476_1 := (cell_far (p := ⟨gb475,0,none⟩) q5_ (.bool false)).trans hx476_1;replace hx476_2 := (cell_far (p := ⟨gb475,0,none⟩) q5_ (.bool false)).trans hx476_2;replace hx476_3 := (cell_far (p := ⟨gb475,0,none⟩) q5_ (.bool false)).trans hx476_3;replace hx476_0 := (cell_far (p := ⟨gb475,1,none⟩) q6_ (.string ((rd_T35 t470 x6_2).f1))).trans hx476_0;replace hx476_1 := (cell_far (p := ⟨gb475,1,none⟩) q6_ (.string ((rd_T35 t470 x6_2).f1))).trans hx476_1;replace hx476_2 := (cell_far (p := ⟨gb475,1,none⟩) q6_ (.string ((rd_T35 t470 x6_2).f1))).trans hx476_2;replace hx476_3 := (cell_far (p := ⟨gb475,1,none⟩) q6_ (.string ((rd_T35 t470 x6_2).f1))).trans hx476_3;replace hx476_0 := (cell_far (p := ⟨gb475,2,none⟩) q7_ (.int .i64 ((rd_T35 t470 x6_2).f2))).trans hx476_0;replace hx476_1 := (cell_far (p := ⟨gb475,2,none⟩) q7_ (.int .i64 ((rd_T35 t470 x6_2).f2))).trans hx476_1;replace hx476_2 := (cell_far (p := ⟨gb475,2,none⟩) q7_ (.int .i64 ((rd_T35 t470 x6_2).f2))).trans hx476_2;replace hx476_3 := (cell_far (p := ⟨gb475,2,none⟩) q7_ (.int .i64 ((rd_T35 t470 x6_2).f2))).trans hx476_3;replace hx476_0 := (cell_far (p := ⟨gb475,3,none⟩) q8_ (.int .i64 ((rd_T35 t470 x6_2).f3))).trans hx476_0;replace hx476_1 := (cell_far (p := ⟨gb475,3,none⟩) q8_ (.int .i64 ((rd_T35 t470 x6_2).f3))).trans hx476_1;replace hx476_2 := (cell_far (p := ⟨gb475,3,none⟩) q8_ (.int .i64 ((rd_T35 t470 x6_2).f3))).trans hx476_2;replace hx476_3 := (cell_far (p := ⟨gb475,3,none⟩) q8_ (.int .i64 ((rd_T35 t470 x6_2).f3))).trans hx476_3;(try have hy476_0 := fun (n_ : Nat)=>(show ((((((w65.drewN n_).setCell ⟨gb475,0,none⟩ (.bool false)).setCell ⟨gb475,1,none⟩ (.string ((rd_T35 t470 x6_2).f1))).setCell ⟨gb475,2,none⟩ (.int .i64 ((rd_T35 t470 x6_2).f2))).setCell ⟨gb475,3,none⟩ (.int .i64 ((rd_T35 t470 x6_2).f3)))).cell? _ = some _ from hx476_0));(try have hy476_1 := fun (n_ : Nat)=>(show ((((((w65.drewN n_).setCell ⟨gb475,0,none⟩ (.bool false)).setCell ⟨gb475,1,none⟩ (.string ((rd_T35 t470 x6_2).f1))).setCell ⟨gb475,2,none⟩ (.int .i64 ((rd_T35 t470 x6_2).f2))).setCell ⟨gb475,3,none⟩ (.int .i64 ((rd_T35 t470 x6_2).f3)))).cell? _ = some _ from hx476_1));(try have hy476_2 := fun (n_ : Nat)=>(show ((((((w65.drewN n_).setCell ⟨gb475,0,none⟩ (.bool false)).setCell ⟨gb475,1,none⟩ (.string ((rd_T35 t470 x6_2).f1))).setCell ⟨gb475,2,none⟩ (.int .i64 ((rd_T35 t470 x6_2).f2))).setCell ⟨gb475,3,none⟩ (.int .i64 ((rd_T35 t470 x6_2).f3)))).cell? _ = some _ from hx476_2));(try have hy476_3 := fun (n_ : Nat)=>(show ((((((w65.drewN n_).setCell ⟨gb475,0,none⟩ (.bool false)).setCell ⟨gb475,1,none⟩ (.string ((rd_T35 t470 x6_2).f1))).setCell ⟨gb475,2,none⟩ (.int .i64 ((rd_T35 t470 x6_2).f2))).setCell ⟨gb475,3,none⟩ (.int .i64 ((rd_T35 t470 x6_2).f3)))).cell? _ = some _ from hx476_3));clear hn476_0;clear hn476_1;clear hn476_2;clear hn476_3;replace p476 := eq_true p476;replace q476 := eq_true q476)))
                    go_roundg k2
                    case measure=>have := HJ1.out;have := HK2.out;omega
                    case rel=>exact ⟨(wrap64 (x5_2 + (((rd_T35 t470 x6_2).f1).size : Int))),(wrap64 (x6_2 + 1)),q4_,q4_,H',⟨by have := HJ1.out;have := HK2.out;omega⟩,⟨by (with_reducible repeat (first|apply Kd.R_alloc|apply Kd.R_drewN|apply Kd.R_drew));exact Kd.R_mono HO_3.out (fun _ hk=>trivial)⟩,⟨q17_⟩⟩
                   ·rw [if_neg c63] at H
                    have c63b0 : ((a0.extract (x5_2 : Int).toNat ((wrap64 (x5_2 + (((rd_T35 t470 x6_2).f1).size : Int))) : Int).toNat).toList == ((rd_T35 t470 x6_2).f1).toList) = false := beq_eq_false_iff_ne.mpr c63
                    have c63b1 : ((a0.extract (x5_2 : Int).toNat ((wrap64 (x5_2 + (((rd_T35 t470 x6_2).f1).size : Int))) : Int).toNat).toList != ((rd_T35 t470 x6_2).f1).toList) = true := bne_iff_ne.mpr c63
                    obtain rfl := Option.some.inj H
                    obtain ⟨Ao67,co67,eo67⟩ := Kd.R_slice HO_3.out
                    subst eo67
                    have p474 : 0 ≤ (x6_2 : Int) := of_decide_eq_true q3_
                    have q474 : x6_2 < (t470.length : Int) := of_decide_eq_true q3_
                    obtain ⟨ad474,e474,hx474_0,hx474_1,hx474_2,hx474_3⟩ := at_T35 (Kd.R_reads' HO_3.out).2.2 x6_2 p474 q474
                    have p999 : 0 ≤ (ji47 : Int) := of_decide_eq_true c48b0
                    have q999 : ji47 < (t470.length : Int) := of_decide_eq_true c49b0
                    obtain ⟨ad999,e999,hx999_0,hx999_1,hx999_2,hx999_3⟩ := at_T35 (Kd.R_reads' HO_3.out).2.2 ji47 p999 q999
                    (try rw [← Nbq50.out] at hx999_0)
                    (try rw [← Nbq14.out] at hx474_0)
                    (try rw [← Nbq50.out] at hx474_0)
                    cases e474
                    cases e999
                    replace p999 := eq_true p999
                    replace q999 := eq_true q999
                    replace p474 := eq_true p474
                    replace q474 := eq_true q474
                    have hy999 := fun (n_ : Nat)=>((show Below wr.heap.size wr ((wr.alloc (Obj.cells #[.bool false,.string ((rd_T35 t470 x6_2).f1),.int .i64 ((rd_T35 t470 x6_2).f2),.int .i64 ((rd_T35 t470 x6_2).f3)] 35)).drewN n_) from by repeat (first|exact Below.refl _ _|apply below_alloc|apply pw_below_drewN)).cell (World.block_lt_of_cell? wr _ hx999_0)).trans hx999_0
                    go_wp2_with (first|((with_reducible refine gate_dst (N := 7) rfl ?_);(try (refine gate_guard (by rfl) ?_;dsimp only));refine box_event ?hg (N := 7) ?hd (cs := #[.bool false,.string (⟨#[]⟩ : ByteArray),.int .i64 0,.int .i64 0]) (t := 35) ?hr ?_;(case hd=>rfl);(case hg=>rfl);(case hr=>first|(go_simp;done)|(go_simp;rfl)|(go_simp;simp [my_u8w];done));intro gb475 hg w68 hbox hb;have n0_ := Aside0.mk (Kd.R_below (Kd.R_elderB q19_ gb475 (Nat.le_of_eq hg.symm)) hb);have n1_ := Aside0.mk (below_step (bl_) hb);have n2_ := Aside0.mk (hbox);have n3_ := Aside0.mk ((by rw [hg];exact (below_size (bl_)) : w.heap.size ≤ gb475));have n4_ := Aside0.mk ((by rw [hg];exact (below_size (bl_)) : w.heap.size ≤ gb475));clear HO_3;clear HB;have HO_3 := n0_;have HB := n1_;have BK475 := n2_;have GW475 := n3_;have GE475 := n4_;clear n0_ n1_ n2_ n3_ n4_;clear hb hbox hg;have hcz69_0 : w68.cell? ⟨gb475,0,none⟩ = some (.bool false) := (blk_cell BK475.out 0).trans rfl;have hcz69_1 : w68.cell? ⟨gb475,1,none⟩ = some (.string (⟨#[]⟩ : ByteArray)) := (blk_cell BK475.out 1).trans rfl;have hcz69_2 : w68.cell? ⟨gb475,2,none⟩ = some (.int .i64 0) := (blk_cell BK475.out 2).trans rfl;have hcz69_3 : w68.cell? ⟨gb475,3,none⟩ = some (.int .i64 0) := (blk_cell BK475.out 3).trans rfl;have hfz69_0 := blk_frozen BK475.out 0;have hfz69_1 := blk_frozen BK475.out 1;have hfz69_2 := blk_frozen BK475.out 2;have hfz69_3 := blk_frozen BK475.out 3;have p476 : 0 ≤ ((ji47) : Int) := of_decide_eq_true q3_;have q476 : (ji47) < (t470.length : Int) := of_decide_eq_true q3_;obtain ⟨ad476,e476,hx476_0,hx476_1,hx476_2,hx476_3⟩ := at_T35 (Kd.R_reads' HO_3.out).2.2 (ji47) p476 q476;(try rw [← Nbq14.out] at hx476_0);(try rw [← Nbq50.out] at hx476_0);obtain rfl : ad474 = ad476 := q102_;have hn476_0 : ad474.block ≠ gb475 := Kd.own_blk (Kd.R_ne HO_3.out BK475.out (by decide));have hn476_1 : ad474.block ≠ gb475 := Kd.own_blk (Kd.R_ne HO_3.out BK475.out (by decide));have hn476_2 : ad474.block ≠ gb475 := Kd.own_blk (Kd.R_ne HO_3.out BK475.out (by decide));have hn476_3 : ad474.block ≠ gb475 := Kd.own_blk (Kd.R_ne HO_3.out BK475.out (by decide));replace hx476_0 := (cell_far (p := ⟨gb475,0,none⟩) q5_ (.bool false)).trans hx476_0;replace hx476_1 := (cell_far (p := ⟨gb475,0,none⟩) q5_ (.bool false)).trans hx476_1;replace hx476_2 := (cell_far (p := ⟨gb475,0,none⟩) q5_ (.bool false)).trans hx476_2;replace hx476_3 := (cell_far (p := ⟨gb475,0,none⟩) q5_ (.bool false)).trans hx476_3;replace hx476_0 := (cell_far (p := ⟨gb475,1,none⟩) q6_ (.string ((rd_T35 t470 x6_2).f1))).trans hx476_0;replace hx476_1 := (cell_far (p := ⟨gb475,1,none⟩) q6_ (.string ((rd_T35 t470 x6_2).f1))).trans hx476_1;replace hx476_2 := (cell_far (p := ⟨gb475,1,none⟩) q6_ (.string ((rd_T35 t470 x6_2).f1))).trans hx476_2;replace hx476_3 := (cell_far (p := ⟨gb475,1,none⟩) q6_ (.string ((rd_T35 t470 x6_2).f1))).trans hx476_3;replace hx476_0 := (cell_far (p := ⟨gb475,2,none⟩) q7_ (.int .i64 ((rd_T35 t470 x6_2).f2))).trans hx476_0;replace hx476_1 := (cell_far (p := ⟨gb475,2,none⟩) q7_ (.int .i64 ((rd_T35 t470 x6_2).f2))).trans hx476_1;replace hx476_2 := (cell_far (p := ⟨gb475,2,none⟩) q7_ (.int .i64 ((rd_T35 t470 x6_2).f2))).trans hx476_2;replace hx476_3 := (cell_far (p := ⟨gb475,2,none⟩) q7_ (.int .i64 ((rd_T35 t470 x6_2).f2))).trans hx476_3;replace hx476_0 := (cell_far (p := ⟨gb475,3,none⟩) q8_ (.int .i64 ((rd_T35 t470 x6_2).f3))).trans hx476_0;replace hx476_1 := (cell_far (p := ⟨gb475,3,none⟩) q8_ (.int .i64 ((rd_T35 t470 x6_2).f3))).trans hx476_1;replace hx476_2 := (cell_far (p := ⟨gb475,3,none⟩) q8_ (.int .i64 ((rd_T35 t470 x6_2).f3))).trans hx476_2;replace hx476_3 := (cell_far (p := ⟨gb475,3,none⟩) q8_ (.int .i64 ((rd_T35 t470 x6_2).f3))).trans hx476_3;(try have hy476_0 := fun (n_ : Nat)=>(show ((((((w68.drewN n_).setCell ⟨gb475,0,none⟩ (.bool false)).setCell ⟨gb475,1,none⟩ (.string ((rd_T35 t470 x6_2).f1))).setCell ⟨gb475,2,none⟩ (.int .i64 ((rd_T35 t470 x6_2).f2))).setCell ⟨gb475,3,none⟩ (.int .i64 ((rd_T35 t470 x6_2).f3)))).cell? _ = some _ from hx476_0));(try have hy476_1 := fun (n_ : Nat)=>(show ((((((w68.drewN n_).setCell ⟨gb475,0,none⟩ (.bool false)).setCell ⟨gb475,1,none⟩ (.string ((rd_T35 t470 x6_2).f1))).setCell ⟨gb475,2,none⟩ (.int .i64 ((rd_T35 t470 x6_2).f2))).setCell ⟨gb475,3,none⟩ (.int .i64 ((rd_T35 t470 x6_2).f3)))).cell? _ = some _ from hx476_1));(try have hy476_2 := fun (n_ : Nat)=>(show ((((((w68.drewN n_).setCell ⟨gb475,0,none⟩ (.bool false)).setCell ⟨gb475,1,none⟩ (.string ((rd_T35 t470 x6_2).f1))).setCell ⟨gb475,2,none⟩ (.int .i64 ((rd_T35 t470 x6_2).f2))).setCell ⟨gb475,3,none⟩ (.int .i64 ((rd_T35 t470 x6_2).f3)))).cell? _ = some _ from hx476_2));(try have hy476_3 := fun (n_ : Nat)=>(show ((((((w68.drewN n_).setCell ⟨gb475,0,none⟩ (.bool false)).setCell ⟨gb475,1,none⟩ (.string ((rd_T35 t470 x6_2).f1))).setCell ⟨gb475,2,none⟩ (.int .i64 ((rd_T35 t470 x6_2).f2))).setCell ⟨gb475,3,none⟩ (.int .i64 ((rd_T35 t470 x6_2).f3)))).cell? _ = some _ from hx476_3));clear hn476_0;clear hn476_1;clear hn476_2;clear hn476_3;replace p476 := eq_true p476;replace q476 := eq_true q476))
                    repeat (go_quiet (first|((with_reducible refine gate_dst (N := 7) rfl ?_);(try (refine gate_guard (by rfl) ?_;dsimp only));refine box_event ?hg (N := 7) ?hd (cs := #[.bool false,.string (⟨#[]⟩ : ByteArray),.int .i64 0,.int .i64 0]) (t := 35) ?hr ?_;(case hd=>rfl);(case hg=>rfl);(case hr=>first|(go_simp;done)|(go_simp;rfl)|(go_simp;simp [my_u8w];done));intro gb475 hg w68 hbox hb;have n0_ := Aside0.mk (Kd.R_below (Kd.R_elderB q19_ gb475 (Nat.le_of_eq hg.symm)) hb);have n1_ := Aside0.mk (below_step (bl_) hb);have n2_ := Aside0.mk (hbox);have n3_ := Aside0.mk ((by rw [hg];exact (below_size (bl_)) : w.heap.size ≤ gb475));have n4_ := Aside0.mk ((by rw [hg];exact (below_size (bl_)) : w.heap.size ≤ gb475));clear HO_3;clear HB;have HO_3 := n0_;have HB := n1_;have BK475 := n2_;have GW475 := n3_;have GE475 := n4_;clear n0_ n1_ n2_ n3_ n4_;clear hb hbox hg;have hcz69_0 : w68.cell? ⟨gb475,0,none⟩ = some (.bool false) := (blk_cell BK475.out 0).trans rfl;have hcz69_1 : w68.cell? ⟨gb475,1,none⟩ = some (.string (⟨#[]⟩ : ByteArray)) := (blk_cell BK475.out 1).trans rfl;have hcz69_2 : w68.cell? ⟨gb475,2,none⟩ = some (.int .i64 0) := (blk_cell BK475.out 2).trans rfl;have hcz69_3 : w68.cell? ⟨gb475,3,none⟩ = some (.int .i64 0) := (blk_cell BK475.out 3).trans rfl;have hfz69_0 := blk_frozen BK475.out 0;have hfz69_1 := blk_frozen BK475.out 1;have hfz69_2 := blk_frozen BK475.out 2;have hfz69_3 := blk_frozen BK475.out 3;have p476 : 0 ≤ ((ji47) : Int) := of_decide_eq_true q3_;have q476 : (ji47) < (t470.length : Int) := of_decide_eq_true q3_;obtain ⟨ad476,e476,hx476_0,hx476_1,hx476_2,hx476_3⟩ := at_T35 (Kd.R_reads' HO_3.out).2.2 (ji47) p476 q476;(try rw [← Nbq14.out] at hx476_0);(try rw [← Nbq50.out] at hx476_0);obtain rfl : ad474 = ad476 := q102_;have hn476_0 : ad474.block ≠ gb475 := Kd.own_blk (Kd.R_ne HO_3.out BK475.out (by decide));have hn476_1 : ad474.block ≠ gb475 := Kd.own_blk (Kd.R_ne HO_3.out BK475.out (by decide));have hn476_2 : ad474.block ≠ gb475 := Kd.own_blk (Kd.R_ne HO_3.out BK475.out (by decide));have hn476_3 : ad474.block ≠ gb475 := Kd.own_blk (Kd.R_ne HO_3.out BK475.out (by decide));replace hx476_0 := (cell_far (p := ⟨gb475,0,none⟩) q5_ (.bool false)).trans hx476_0;replace hx476_1 := (cell_far (p := ⟨gb475,0,none⟩) q5_ (.bool false)).trans hx476_1;replace hx476_2 := (cell_far (p := ⟨gb475,0,none⟩) q5_ (.bool false)).trans hx476_2;replace hx476_3 := (cell_far (p := ⟨gb475,0,none⟩) q5_ (.bool false)).trans hx476_3;replace hx476_0 := (cell_far (p := ⟨gb475,1,none⟩) q6_ (.string ((rd_T35 t470 x6_2).f1))).trans hx476_0;replace hx476_1 := (cell_far (p := ⟨gb475,1,none⟩) q6_ (.string ((rd_T35 t470 x6_2).f1))).trans hx476_1;replace hx476_2 := (cell_far (p := ⟨gb475,1,none⟩) q6_ (.string ((rd_T35 t470 x6_2).f1))).trans hx476_2;replace hx476_3 := (cell_far (p := ⟨gb475,1,none⟩) q6_ (.string ((rd_T35 t470 x6_2).f1))).trans hx476_3;replace hx476_0 := (cell_far (p := ⟨gb475,2,none⟩) q7_ (.int .i64 ((rd_T35 t470 x6_2).f2))).trans hx476_0;replace hx476_1 := (cell_far (p := ⟨gb475,2,none⟩) q7_ (.int .i64 ((rd_T35 t470 x6_2).f2))).trans hx476_1;replace hx476_2 := (cell_far (p := ⟨gb475,2,none⟩) q7_ (.int .i64 ((rd_T35 t470 x6_2).f2))).trans hx476_2;replace hx476_3 := (cell_far (p := ⟨gb475,2,none⟩) q7_ (.int .i64 ((rd_T35 t470 x6_2).f2))).trans hx476_3;replace hx476_0 := (cell_far (p := ⟨gb475,3,none⟩) q8_ (.int .i64 ((rd_T35 t470 x6_2).f3))).trans hx476_0;replace hx476_1 := (cell_far (p := ⟨gb475,3,none⟩) q8_ (.int .i64 ((rd_T35 t470 x6_2).f3))).trans hx476_1;replace hx476_2 := (cell_far (p := ⟨gb475,3,none⟩) q8_ (.int .i64 ((rd_T35 t470 x6_2).f3))).trans hx476_2;replace hx476_3 := (cell_far (p := ⟨gb475,3,none⟩) q8_ (.int .i64 ((rd_T35 t470 x6_2).f3))).trans hx476_3;(try have hy476_0 := fun (n_ : Nat)=>(show ((((((w68.drewN n_).setCell ⟨gb475,0,none⟩ (.bool false)).setCell ⟨gb475,1,none⟩ (.string ((rd_T35 t470 x6_2).f1))).setCell ⟨gb475,2,none⟩ (.int .i64 ((rd_T35 t470 x6_2).f2))).setCell ⟨gb475,3,none⟩ (.int .i64 ((rd_T35 t470 x6_2).f3)))).cell? _ = some _ from hx476_0));(try have hy476_1 := fun (n_ : Nat)=>(show ((((((w68.drewN n_).setCell ⟨gb475,0,none⟩ (.bool false)).setCell ⟨gb475,1,none⟩ (.string ((rd_T35 t470 x6_2).f1))).setCell ⟨gb475,2,none⟩ (.int .i64 ((rd_T35 t470 x6_2).f2))).setCell ⟨gb475,3,none⟩ (.int .i64 ((rd_T35 t470 x6_2).f3)))).cell? _ = some _ from hx476_1));(try have hy476_2 := fun (n_ : Nat)=>(show ((((((w68.drewN n_).setCell ⟨gb475,0,none⟩ (.bool false)).setCell ⟨gb475,1,none⟩ (.string ((rd_T35 t470 x6_2).f1))).setCell ⟨gb475,2,none⟩ (.int .i64 ((rd_T35 t470 x6_2).f2))).setCell ⟨gb475,3,none⟩ (.int .i64 ((rd_T35 t470 x6_2).f3)))).cell? _ = some _ from hx476_2));(try have hy476_3 := fun (n_ : Nat)=>(show ((((((w68.drewN n_).setCell ⟨gb475,0,none⟩ (.bool false)).setCell ⟨gb475,1,none⟩ (.string ((rd_T35 t470 x6_2).f1))).setCell ⟨gb475,2,none⟩ (.int .i64 ((rd_T35 t470 x6_2).f2))).setCell ⟨gb475,3,none⟩ (.int .i64 ((rd_T35 t470 x6_2).f3)))).cell? _ = some _ from hx476_3));clear hn476_0;clear hn476_1;clear hn476_2;clear hn476_3;replace p476 := eq_true p476;replace q476 := eq_true q476));try go_wp2_with (first|((with_reducible refine gate_dst (N := 7) rfl ?_);(try (refine gate_guard (by rfl) ?_;dsimp only));refine box_event ?hg (N := 7) ?hd (cs := #[.bool false,.string (⟨#[]⟩ : ByteArray),.int .i64 0,.int .i64 0]) (t := 35) ?hr ?_;(case hd=>rfl);(case hg=>rfl);(case hr=>first|(go_simp;done)|(go_simp;rfl)|(go_simp;simp [my_u8w];done));intro gb475 hg w68 hbox hb;have n0_ := Aside0.mk (Kd.R_below (Kd.R_elderB q19_ gb475 (Nat.le_of_eq hg.symm)) hb);have n1_ := Aside0.mk (below_step (bl_) hb);have n2_ := Aside0.mk (hbox);have n3_ := Aside0.mk ((by rw [hg];exact (below_size (bl_)) : w.heap.size ≤ gb475));have n4_ := Aside0.mk ((by rw [hg];exact (below_size (bl_)) : w.heap.size ≤ gb475));clear HO_3;clear HB;have HO_3 := n0_;have HB := n1_;have BK475 := n2_;have GW475 := n3_;have GE475 := n4_;clear n0_ n1_ n2_ n3_ n4_;clear hb hbox hg;have hcz69_0 : w68.cell? ⟨gb475,0,none⟩ = some (.bool false) := (blk_cell BK475.out 0).trans rfl;have hcz69_1 : w68.cell? ⟨gb475,1,none⟩ = some (.string (⟨#[]⟩ : ByteArray)) := (blk_cell BK475.out 1).trans rfl;have hcz69_2 : w68.cell? ⟨gb475,2,none⟩ = some (.int .i64 0) := (blk_cell BK475.out 2).trans rfl;have hcz69_3 : w68.cell? ⟨gb475,3,none⟩ = some (.int .i64 0) := (blk_cell BK475.out 3).trans rfl;have hfz69_0 := blk_frozen BK475.out 0;have hfz69_1 := blk_frozen BK475.out 1;have hfz69_2 := blk_frozen BK475.out 2;have hfz69_3 := blk_frozen BK475.out 3;have p476 : 0 ≤ ((ji47) : Int) := of_decide_eq_true q3_;have q476 : (ji47) < (t470.length : Int) := of_decide_eq_true q3_;obtain ⟨ad476,e476,hx476_0,hx476_1,hx476_2,hx476_3⟩ := at_T35 (Kd.R_reads' HO_3.out).2.2 (ji47) p476 q476;(try rw [← Nbq14.out] at hx476_0);(try rw [← Nbq50.out] at hx476_0);obtain rfl : ad474 = ad476 := q102_;have hn476_0 : ad474.block ≠ gb475 := Kd.own_blk (Kd.R_ne HO_3.out BK475.out (by decide));have hn476_1 : ad474.block ≠ gb475 := Kd.own_blk (Kd.R_ne HO_3.out BK475.out (by decide));have hn476_2 : ad474.block ≠ gb475 := Kd.own_blk (Kd.R_ne HO_3.out BK475.out (by decide));have hn476_3 : ad474.block ≠ gb475 := Kd.own_blk (Kd.R_ne HO_3.out BK475.out (by decide));replace hx476_0 := (cell_far (p := ⟨gb475,0,none⟩) q5_ (.bool false)).trans hx476_0;replace hx476_1 := (cell_far (p := ⟨gb475,0,none⟩) q5_ (.bool false)).trans hx476_1;replace hx476_2 := (cell_far (p := ⟨gb475,0,none⟩) q5_ (.bool false)).trans hx476_2;replace hx476_3 := (cell_far (p := ⟨gb475,0,none⟩) q5_ (.bool false)).trans hx476_3;replace hx476_0 := (cell_far (p := ⟨gb475,1,none⟩) q6_ (.string ((rd_T35 t470 x6_2).f1))).trans hx476_0;replace hx476_1 := (cell_far (p := ⟨gb475,1,none⟩) q6_ (.string ((rd_T35 t470 x6_2).f1))).trans hx476_1;replace hx476_2 := (cell_far (p := ⟨gb475,1,none⟩) q6_ (.string ((rd_T35 t470 x6_2).f1))).trans hx476_2;replace hx476_3 := (cell_far (p := ⟨gb475,1,none⟩) q6_ (.string ((rd_T35 t470 x6_2).f1))).trans hx476_3;replace hx476_0 := (cell_far (p := ⟨gb475,2,none⟩) q7_ (.int .i64 ((rd_T35 t470 x6_2).f2))).trans hx476_0;replace hx476_1 := (cell_far (p := ⟨gb475,2,none⟩) q7_ (.int .i64 ((rd_T35 t470 x6_2).f2))).trans hx476_1;replace hx476_2 := (cell_far (p := ⟨gb475,2,none⟩) q7_ (.int .i64 ((rd_T35 t470 x6_2).f2))).trans hx476_2;replace hx476_3 := (cell_far (p := ⟨gb475,2,none⟩) q7_ (.int .i64 ((rd_T35 t470 x6_2).f2))).trans hx476_3;replace hx476_0 := (cell_far (p := ⟨gb475,3,none⟩) q8_ (.int .i64 ((rd_T35 t470 x6_2).f3))).trans hx476_0;replace hx476_1 := (cell_far (p := ⟨gb475,3,none⟩) q8_ (.int .i64 ((rd_T35 t470 x6_2).f3))).trans hx476_1;replace hx476_2 := (cell_far (p := ⟨gb475,3,none⟩) q8_ (.int .i64 ((rd_T35 t470 x6_2).f3))).trans hx476_2;replace hx476_3 := (cell_far (p := ⟨gb475,3,none⟩) q8_ (.int .i64 ((rd_T35 t470 x6_2).f3))).trans hx476_3;(try have hy476_0 := fun (n_ : Nat)=>(show ((((((w68.drewN n_).setCell ⟨gb475,0,none⟩ (.bool false)).setCell ⟨gb475,1,none⟩ (.string ((rd_T35 t470 x6_2).f1))).setCell ⟨gb475,2,none⟩ (.int .i64 ((rd_T35 t470 x6_2).f2))).setCell ⟨gb475,3,none⟩ (.int .i64 ((rd_T35 t470 x6_2).f3)))).cell? _ = some _ from hx476_0));(try have hy476_1 := fun (n_ : Nat)=>(show ((((((w68.drewN n_).setCell ⟨gb475,0,none⟩ (.bool false)).setCell ⟨gb475,1,none⟩ (.string ((rd_T35 t470 x6_2).f1))).setCell ⟨gb475,2,none⟩ (.int .i64 ((rd_T35 t470 x6_2).f2))).setCell ⟨gb475,3,none⟩ (.int .i64 ((rd_T35 t470 x6_2).f3)))).cell? _ = some _ from hx476_1));(try have hy476_2 := fun (n_ : Nat)=>(show ((((((w68.drewN n_).setCell ⟨gb475,0,none⟩ (.bool false)).setCell ⟨gb475,1,none⟩ (.string ((rd_T35 t470 x6_2).f1))).setCell ⟨gb475,2,none⟩ (.int .i64 ((rd_T35 t470 x6_2).f2))).setCell ⟨gb475,3,none⟩ (.int .i64 ((rd_T35 t470 x6_2).f3)))).cell? _ = some _ from hx476_2));(try have hy476_3 := fun (n_ : Nat)=>(show ((((((w68.drewN n_).setCell ⟨gb475,0,none⟩ (.bool false)).setCell ⟨gb475,1,none⟩ (.string ((rd_T35 t470 x6_2).f1))).setCell ⟨gb475,2,none⟩ (.int .i64 ((rd_T35 t470 x6_2).f2))).setCell ⟨gb475,3,none⟩ (.int .i64 ((rd_T35 t470 x6_2).f3)))).cell? _ = some _ from hx476_3));clear hn476_0;clear hn476_1;clear hn476_2;clear hn476_3;replace p476 := eq_true p476;replace q476 := eq_true q476)))
                    go_ret
                    exact ⟨q78_,q17_⟩
                  ·rw [if_neg c62] at H
                   exact absurd H (by simp)
                 ·rw [if_neg c61] at H
                  exact absurd H (by simp)
                ·rw [if_neg c60] at H
                 exact absurd H (by simp)
             ·replace c51 := Bool.eq_false_iff.mpr c51
              subst c51
              have H1 : (some false) = some r := by rw [if_neg (show ¬ (false = true) by decide)] at H;exact H
              clear H
              have H := H1
              clear H1
              obtain rfl := Option.some.inj H
              obtain ⟨Ao70,co70,eo70⟩ := Kd.R_slice HO_3.out
              subst eo70
              have p474 : 0 ≤ (x6_2 : Int) := of_decide_eq_true q3_
              have q474 : x6_2 < (t470.length : Int) := of_decide_eq_true q3_
              obtain ⟨ad474,e474,hx474_0,hx474_1,hx474_2,hx474_3⟩ := at_T35 (Kd.R_reads' HO_3.out).2.2 x6_2 p474 q474
              have p999 : 0 ≤ (ji47 : Int) := of_decide_eq_true c48b0
              have q999 : ji47 < (t470.length : Int) := of_decide_eq_true c49b0
              obtain ⟨ad999,e999,hx999_0,hx999_1,hx999_2,hx999_3⟩ := at_T35 (Kd.R_reads' HO_3.out).2.2 ji47 p999 q999
              (try rw [← Nbq50.out] at hx999_0)
              (try rw [← Nbq14.out] at hx474_0)
              (try rw [← Nbq50.out] at hx474_0)
              cases e474
              cases e999
              replace p999 := eq_true p999
              replace q999 := eq_true q999
              replace p474 := eq_true p474
              replace q474 := eq_true q474
              have hy999 := fun (n_ : Nat)=>((show Below wr.heap.size wr ((wr.alloc (Obj.cells #[.bool false,.string ((rd_T35 t470 x6_2).f1),.int .i64 ((rd_T35 t470 x6_2).f2),.int .i64 ((rd_T35 t470 x6_2).f3)] 35)).drewN n_) from by repeat (first|exact Below.refl _ _|apply below_alloc|apply pw_below_drewN)).cell (World.block_lt_of_cell? wr _ hx999_0)).trans hx999_0
              go_wp2_with (first|((with_reducible refine gate_dst (N := 7) rfl ?_);(try (refine gate_guard (by rfl) ?_;dsimp only));refine box_event ?hg (N := 7) ?hd (cs := #[.bool false,.string (⟨#[]⟩ : ByteArray),.int .i64 0,.int .i64 0]) (t := 35) ?hr ?_;(case hd=>rfl);(case hg=>rfl);(case hr=>first|(go_simp;done)|(go_simp;rfl)|(go_simp;simp [my_u8w];done));intro gb475 hg w71 hbox hb;have n0_ := Aside0.mk (Kd.R_below (Kd.R_elderB q19_ gb475 (Nat.le_of_eq hg.symm)) hb);have n1_ := Aside0.mk (below_step (bl_) hb);have n2_ := Aside0.mk (hbox);have n3_ := Aside0.mk ((by rw [hg];exact (below_size (bl_)) : w.heap.size ≤ gb475));have n4_ := Aside0.mk ((by rw [hg];exact (below_size (bl_)) : w.heap.size ≤ gb475));clear HO_3;clear HB;have HO_3 := n0_;have HB := n1_;have BK475 := n2_;have GW475 := n3_;have GE475 := n4_;clear n0_ n1_ n2_ n3_ n4_;clear hb hbox hg;have hcz72_0 : w71.cell? ⟨gb475,0,none⟩ = some (.bool false) := (blk_cell BK475.out 0).trans rfl;have hcz72_1 : w71.cell? ⟨gb475,1,none⟩ = some (.string (⟨#[]⟩ : ByteArray)) := (blk_cell BK475.out 1).trans rfl;have hcz72_2 : w71.cell? ⟨gb475,2,none⟩ = some (.int .i64 0) := (blk_cell BK475.out 2).trans rfl;have hcz72_3 : w71.cell? ⟨gb475,3,none⟩ = some (.int .i64 0) := (blk_cell BK475.out 3).trans rfl;have hfz72_0 := blk_frozen BK475.out 0;have hfz72_1 := blk_frozen BK475.out 1;have hfz72_2 := blk_frozen BK475.out 2;have hfz72_3 := blk_frozen BK475.out 3;have p476 : 0 ≤ ((ji47) : Int) := of_decide_eq_true q3_;have q476 : (ji47) < (t470.length : Int) := of_decide_eq_true q3_;obtain ⟨ad476,e476,hx476_0,hx476_1,hx476_2,hx476_3⟩ := at_T35 (Kd.R_reads' HO_3.out).2.2 (ji47) p476 q476;(try rw [← Nbq14.out] at hx476_0);(try rw [← Nbq50.out] at hx476_0);obtain rfl : ad474 = ad476 := q102_;have hn476_0 : ad474.block ≠ gb475 := Kd.own_blk (Kd.R_ne HO_3.out BK475.out (by decide));have hn476_1 : ad474.block ≠ gb475 := Kd.own_blk (Kd.R_ne HO_3.out BK475.out (by decide));have hn476_2 : ad474.block ≠ gb475 := Kd.own_blk (Kd.R_ne HO_3.out BK475.out (by decide));have hn476_3 : ad474.block ≠ gb475 := Kd.own_blk (Kd.R_ne HO_3.out BK475.out (by decide));replace hx476_0 := (cell_far (p := ⟨gb475,0,none⟩) q5_ (.bool false)).trans hx476_0;replace hx476_1 := (cell_far (p := ⟨gb475,0,none⟩) q5_ (.bool false)).trans hx476_1;replace hx476_2 := (cell_far (p := ⟨gb475,0,none⟩) q5_ (.bool false)).trans hx476_2;replace hx476_3 := (cell_far (p := ⟨gb475,0,none⟩) q5_ (.bool false)).trans hx476_3;replace hx476_0 := (cell_far (p := ⟨gb475,1,none⟩) q6_ (.string ((rd_T35 t470 x6_2).f1))).trans hx476_0;replace hx476_1 := (cell_far (p := ⟨gb475,1,none⟩) q6_ (.string ((rd_T35 t470 x6_2).f1))).trans hx476_1;replace hx476_2 := (cell_far (p := ⟨gb475,1,none⟩) q6_ (.string ((rd_T35 t470 x6_2).f1))).trans hx476_2;replace hx476_3 := (cell_far (p := ⟨gb475,1,none⟩) q6_ (.string ((rd_T35 t470 x6_2).f1))).trans hx476_3;replace hx476_0 := (cell_far (p := ⟨gb475,2,none⟩) q7_ (.int .i64 ((rd_T35 t470 x6_2).f2))).trans hx476_0;replace hx476_1 := (cell_far (p := ⟨gb475,2,none⟩) q7_ (.int .i64 ((rd_T35 t470 x6_2).f2))).trans hx476_1;replace hx476_2 := (cell_far (p := ⟨gb475,2,none⟩) q7_ (.int .i64 ((rd_T35 t470 x6_2).f2))).trans hx476_2;replace hx476_3 := (cell_far (p := ⟨gb475,2,none⟩) q7_ (.int .i64 ((rd_T35 t470 x6_2).f2))).trans hx476_3;replace hx476_0 := (cell_far (p := ⟨gb475,3,none⟩) q8_ (.int .i64 ((rd_T35 t470 x6_2).f3))).trans hx476_0;replace hx476_1 := (cell_far (p := ⟨gb475,3,none⟩) q8_ (.int .i64 ((rd_T35 t470 x6_2).f3))).trans hx476_1;replace hx476_2 := (cell_far (p := ⟨gb475,3,none⟩) q8_ (.int .i64 ((rd_T35 t470 x6_2).f3))).trans hx476_2;replace hx476_3 := (cell_far (p := ⟨gb475,3,none⟩) q8_ (.int .i64 ((rd_T35 t470 x6_2).f3))).trans hx476_3;(try have hy476_0 := fun (n_ : Nat)=>(show ((((((w71.drewN n_).setCell ⟨gb475,0,none⟩ (.bool false)).setCell ⟨gb475,1,none⟩ (.string ((rd_T35 t470 x6_2).f1))).setCell ⟨gb475,2,none⟩ (.int .i64 ((rd_T35 t470 x6_2).f2))).setCell ⟨gb475,3,none⟩ (.int .i64 ((rd_T35 t470 x6_2).f3)))).cell? _ = some _ from hx476_0));(try have hy476_1 := fun (n_ : Nat)=>(show ((((((w71.drewN n_).setCell ⟨gb475,0,none⟩ (.bool false)).setCell ⟨gb475,1,none⟩ (.string ((rd_T35 t470 x6_2).f1))).setCell ⟨gb475,2,none⟩ (.int .i64 ((rd_T35 t470 x6_2).f2))).setCell ⟨gb475,3,none⟩ (.int .i64 ((rd_T35 t470 x6_2).f3)))).cell? _ = some _ from hx476_1));(try have hy476_2 := fun (n_ : Nat)=>(show ((((((w71.drewN n_).setCell ⟨gb475,0,none⟩ (.bool false)).setCell ⟨gb475,1,none⟩ (.string ((rd_T35 t470 x6_2).f1))).setCell ⟨gb475,2,none⟩ (.int .i64 ((rd_T35 t470 x6_2).f2))).setCell ⟨gb475,3,none⟩ (.int .i64 ((rd_T35 t470 x6_2).f3)))).cell? _ = some _ from hx476_2));(try have hy476_3 := fun (n_ : Nat)=>(show ((((((w71.drewN n_).setCell ⟨gb475,0,none⟩ (.bool false)).setCell ⟨gb475,1,none⟩ (.string ((rd_T35 t470 x6_2).f1))).setCell ⟨gb475,2,none⟩ (.int .i64 ((rd_T35 t470 x6_2).f2))).setCell ⟨gb475,3,none⟩ (.int .i64 ((rd_T35 t470 x6_2).f3)))).cell? _ = some _ from hx476_3));clear hn476_0;clear hn476_1;clear hn476_2;clear hn476_3;replace p476 := eq_true p476;replace q476 := eq_true q476))
              repeat (go_quiet (first|((with_reducible refine gate_dst (N := 7) rfl ?_);(try (refine gate_guard (by rfl) ?_;dsimp only));refine box_event ?hg (N := 7) ?hd (cs := #[.bool false,.string (⟨#[]⟩ : ByteArray),.int .i64 0,.int .i64 0]) (t := 35) ?hr ?_;(case hd=>rfl);(case hg=>rfl);(case hr=>first|(go_simp;done)|(go_simp;rfl)|(go_simp;simp [my_u8w];done));intro gb475 hg w71 hbox hb;have n0_ := Aside0.mk (Kd.R_below (Kd.R_elderB q19_ gb475 (Nat.le_of_eq hg.symm)) hb);have n1_ := Aside0.mk (below_step (bl_) hb);have n2_ := Aside0.mk (hbox);have n3_ := Aside0.mk ((by rw [hg];exact (below_size (bl_)) : w.heap.size ≤ gb475));have n4_ := Aside0.mk ((by rw [hg];exact (below_size (bl_)) : w.heap.size ≤ gb475));clear HO_3;clear HB;have HO_3 := n0_;have HB := n1_;have BK475 := n2_;have GW475 := n3_;have GE475 := n4_;clear n0_ n1_ n2_ n3_ n4_;clear hb hbox hg;have hcz72_0 : w71.cell? ⟨gb475,0,none⟩ = some (.bool false) := (blk_cell BK475.out 0).trans rfl;have hcz72_1 : w71.cell? ⟨gb475,1,none⟩ = some (.string (⟨#[]⟩ : ByteArray)) := (blk_cell BK475.out 1).trans rfl;have hcz72_2 : w71.cell? ⟨gb475,2,none⟩ = some (.int .i64 0) := (blk_cell BK475.out 2).trans rfl;have hcz72_3 : w71.cell? ⟨gb475,3,none⟩ = some (.int .i64 0) := (blk_cell BK475.out 3).trans rfl;have hfz72_0 := blk_frozen BK475.out 0;have hfz72_1 := blk_frozen BK475.out 1;have hfz72_2 := blk_frozen BK475.out 2;have hfz72_3 := blk_frozen BK475.out 3;have p476 : 0 ≤ ((ji47) : Int) := of_decide_eq_true q3_;have q476 : (ji47) < (t470.length : Int) := of_decide_eq_true q3_;obtain ⟨ad476,e476,hx476_0,hx476_1,hx476_2,hx476_3⟩ := at_T35 (Kd.R_reads' HO_3.out).2.2 (ji47) p476 q476;(try rw [← Nbq14.out] at hx476_0);(try rw [← Nbq50.out] at hx476_0);obtain rfl : ad474 = ad476 := q102_;have hn476_0 : ad474.block ≠ gb475 := Kd.own_blk (Kd.R_ne HO_3.out BK475.out (by decide));have hn476_1 : ad474.block ≠ gb475 := Kd.own_blk (Kd.R_ne HO_3.out BK475.out (by decide));have hn476_2 : ad474.block ≠ gb475 := Kd.own_blk (Kd.R_ne HO_3.out BK475.out (by decide));have hn476_3 : ad474.block ≠ gb475 := Kd.own_blk (Kd.R_ne HO_3.out BK475.out (by decide));replace hx476_0 := (cell_far (p := ⟨gb475,0,none⟩) q5_ (.bool false)).trans hx476_0;replace hx476_1 := (cell_far (p := ⟨gb475,0,none⟩) q5_ (.bool false)).trans hx476_1;replace hx476_2 := (cell_far (p := ⟨gb475,0,none⟩) q5_ (.bool false)).trans hx476_2;replace hx476_3 := (cell_far (p := ⟨gb475,0,none⟩) q5_ (.bool false)).trans hx476_3;replace hx476_0 := (cell_far (p := ⟨gb475,1,none⟩) q6_ (.string ((rd_T35 t470 x6_2).f1))).trans hx476_0;replace hx476_1 := (cell_far (p := ⟨gb475,1,none⟩) q6_ (.string ((rd_T35 t470 x6_2).f1))).trans hx476_1;replace hx476_2 := (cell_far (p := ⟨gb475,1,none⟩) q6_ (.string ((rd_T35 t470 x6_2).f1))).trans hx476_2;replace hx476_3 := (cell_far (p := ⟨gb475,1,none⟩) q6_ (.string ((rd_T35 t470 x6_2).f1))).trans hx476_3;replace hx476_0 := (cell_far (p := ⟨gb475,2,none⟩) q7_ (.int .i64 ((rd_T35 t470 x6_2).f2))).trans hx476_0;replace hx476_1 := (cell_far (p := ⟨gb475,2,none⟩) q7_ (.int .i64 ((rd_T35 t470 x6_2).f2))).trans hx476_1;replace hx476_2 := (cell_far (p := ⟨gb475,2,none⟩) q7_ (.int .i64 ((rd_T35 t470 x6_2).f2))).trans hx476_2;replace hx476_3 := (cell_far (p := ⟨gb475,2,none⟩) q7_ (.int .i64 ((rd_T35 t470 x6_2).f2))).trans hx476_3;replace hx476_0 := (cell_far (p := ⟨gb475,3,none⟩) q8_ (.int .i64 ((rd_T35 t470 x6_2).f3))).trans hx476_0;replace hx476_1 := (cell_far (p := ⟨gb475,3,none⟩) q8_ (.int .i64 ((rd_T35 t470 x6_2).f3))).trans hx476_1;replace hx476_2 := (cell_far (p := ⟨gb475,3,none⟩) q8_ (.int .i64 ((rd_T35 t470 x6_2).f3))).trans hx476_2;replace hx476_3 := (cell_far (p := ⟨gb475,3,none⟩) q8_ (.int .i64 ((rd_T35 t470 x6_2).f3))).trans hx476_3;(try have hy476_0 := fun (n_ : Nat)=>(show ((((((w71.drewN n_).setCell ⟨gb475,0,none⟩ (.bool false)).setCell ⟨gb475,1,none⟩ (.string ((rd_T35 t470 x6_2).f1))).setCell ⟨gb475,2,none⟩ (.int .i64 ((rd_T35 t470 x6_2).f2))).setCell ⟨gb475,3,none⟩ (.int .i64 ((rd_T35 t470 x6_2).f3)))).cell? _ = some _ from hx476_0));(try have hy476_1 := fun (n_ : Nat)=>(show ((((((w71.drewN n_).setCell ⟨gb475,0,none⟩ (.bool false)).setCell ⟨gb475,1,none⟩ (.string ((rd_T35 t470 x6_2).f1))).setCell ⟨gb475,2,none⟩ (.int .i64 ((rd_T35 t470 x6_2).f2))).setCell ⟨gb475,3,none⟩ (.int .i64 ((rd_T35 t470 x6_2).f3)))).cell? _ = some _ from hx476_1));(try have hy476_2 := fun (n_ : Nat)=>(show ((((((w71.drewN n_).setCell ⟨gb475,0,none⟩ (.bool false)).setCell ⟨gb475,1,none⟩ (.string ((rd_T35 t470 x6_2).f1))).setCell ⟨gb475,2,none⟩ (.int .i64 ((rd_T35 t470 x6_2).f2))).setCell ⟨gb475,3,none⟩ (.int .i64 ((rd_T35 t470 x6_2).f3)))).cell? _ = some _ from hx476_2));(try have hy476_3 := fun (n_ : Nat)=>(show ((((((w71.drewN n_).setCell ⟨gb475,0,none⟩ (.bool false)).setCell ⟨gb475,1,none⟩ (.string ((rd_T35 t470 x6_2).f1))).setCell ⟨gb475,2,none⟩ (.int .i64 ((rd_T35 t470 x6_2).f2))).setCell ⟨gb475,3,none⟩ (.int .i64 ((rd_T35 t470 x6_2).f3)))).cell? _ = some _ from hx476_3));clear hn476_0;clear hn476_1;clear hn476_2;clear hn476_3;replace p476 := eq_true p476;replace q476 := eq_true q476));try go_wp2_with (first|((with_reducible refine gate_dst (N := 7) rfl ?_);(try (refine gate_guard (by rfl) ?_;dsimp only));refine box_event ?hg (N := 7) ?hd (cs := #[.bool false,.string (⟨#[]⟩ : ByteArray),.int .i64 0,.int .i64 0]) (t := 35) ?hr ?_;(case hd=>rfl);(case hg=>rfl);(case hr=>first|(go_simp;done)|(go_simp;rfl)|(go_simp;simp [my_u8w];done));intro gb475 hg w71 hbox hb;have n0_ := Aside0.mk (Kd.R_below (Kd.R_elderB q19_ gb475 (Nat.le_of_eq hg.symm)) hb);have n1_ := Aside0.mk (below_step (bl_) hb);have n2_ := Aside0.mk (hbox);have n3_ := Aside0.mk ((by rw [hg];exact (below_size (bl_)) : w.heap.size ≤ gb475));have n4_ := Aside0.mk ((by rw [hg];exact (below_size (bl_)) : w.heap.size ≤ gb475));clear HO_3;clear HB;have HO_3 := n0_;have HB := n1_;have BK475 := n2_;have GW475 := n3_;have GE475 := n4_;clear n0_ n1_ n2_ n3_ n4_;clear hb hbox hg;have hcz72_0 : w71.cell? ⟨gb475,0,none⟩ = some (.bool false) := (blk_cell BK475.out 0).trans rfl;have hcz72_1 : w71.cell? ⟨gb475,1,none⟩ = some (.string (⟨#[]⟩ : ByteArray)) := (blk_cell BK475.out 1).trans rfl;have hcz72_2 : w71.cell? ⟨gb475,2,none⟩ = some (.int .i64 0) := (blk_cell BK475.out 2).trans rfl;have hcz72_3 : w71.cell? ⟨gb475,3,none⟩ = some (.int .i64 0) := (blk_cell BK475.out 3).trans rfl;have hfz72_0 := blk_frozen BK475.out 0;have hfz72_1 := blk_frozen BK475.out 1;have hfz72_2 := blk_frozen BK475.out 2;have hfz72_3 := blk_frozen BK475.out 3;have p476 : 0 ≤ ((ji47) : Int) := of_decide_eq_true q3_;have q476 : (ji47) < (t470.length : Int) := of_decide_eq_true q3_;obtain ⟨ad476,e476,hx476_0,hx476_1,hx476_2,hx476_3⟩ := at_T35 (Kd.R_reads' HO_3.out).2.2 (ji47) p476 q476;(try rw [← Nbq14.out] at hx476_0);(try rw [← Nbq50.out] at hx476_0);obtain rfl : ad474 = ad476 := q102_;have hn476_0 : ad474.block ≠ gb475 := Kd.own_blk (Kd.R_ne HO_3.out BK475.out (by decide));have hn476_1 : ad474.block ≠ gb475 := Kd.own_blk (Kd.R_ne HO_3.out BK475.out (by decide));have hn476_2 : ad474.block ≠ gb475 := Kd.own_blk (Kd.R_ne HO_3.out BK475.out (by decide));have hn476_3 : ad474.block ≠ gb475 := Kd.own_blk (Kd.R_ne HO_3.out BK475.out (by decide));replace hx476_0 := (cell_far (p := ⟨gb475,0,none⟩) q5_ (.bool false)).trans hx476_0;replace hx476_1 := (cell_far (p := ⟨gb475,0,none⟩) q5_ (.bool false)).trans hx476_1;replace hx476_2 := (cell_far (p := ⟨gb475,0,none⟩) q5_ (.bool false)).trans hx476_2;replace hx476_3 := (cell_far (p := ⟨gb475,0,none⟩) q5_ (.bool false)).trans hx476_3;replace hx476_0 := (cell_far (p := ⟨gb475,1,none⟩) q6_ (.string ((rd_T35 t470 x6_2).f1))).trans hx476_0;replace hx476_1 := (cell_far (p := ⟨gb475,1,none⟩) q6_ (.string ((rd_T35 t470 x6_2).f1))).trans hx476_1;replace hx476_2 := (cell_far (p := ⟨gb475,1,none⟩) q6_ (.string ((rd_T35 t470 x6_2).f1))).trans hx476_2;replace hx476_3 := (cell_far (p := ⟨gb475,1,none⟩) q6_ (.string ((rd_T35 t470 x6_2).f1))).trans hx476_3;replace hx476_0 := (cell_far (p := ⟨gb475,2,none⟩) q7_ (.int .i64 ((rd_T35 t470 x6_2).f2))).trans hx476_0;replace hx476_1 := (cell_far (p := ⟨gb475,2,none⟩) q7_ (.int .i64 ((rd_T35 t470 x6_2).f2))).trans hx476_1;replace hx476_2 := (cell_far (p := ⟨gb475,2,none⟩) q7_ (.int .i64 ((rd_T35 t470 x6_2).f2))).trans hx476_2;replace hx476_3 := (cell_far (p := ⟨gb475,2,none⟩) q7_ (.int .i64 ((rd_T35 t470 x6_2).f2))).trans hx476_3;replace hx476_0 := (cell_far (p := ⟨gb475,3,none⟩) q8_ (.int .i64 ((rd_T35 t470 x6_2).f3))).trans hx476_0;replace hx476_1 := (cell_far (p := ⟨gb475,3,none⟩) q8_ (.int .i64 ((rd_T35 t470 x6_2).f3))).trans hx476_1;replace hx476_2 := (cell_far (p := ⟨gb475,3,none⟩) q8_ (.int .i64 ((rd_T35 t470 x6_2).f3))).trans hx476_2;replace hx476_3 := (cell_far (p := ⟨gb475,3,none⟩) q8_ (.int .i64 ((rd_T35 t470 x6_2).f3))).trans hx476_3;(try have hy476_0 := fun (n_ : Nat)=>(show ((((((w71.drewN n_).setCell ⟨gb475,0,none⟩ (.bool false)).setCell ⟨gb475,1,none⟩ (.string ((rd_T35 t470 x6_2).f1))).setCell ⟨gb475,2,none⟩ (.int .i64 ((rd_T35 t470 x6_2).f2))).setCell ⟨gb475,3,none⟩ (.int .i64 ((rd_T35 t470 x6_2).f3)))).cell? _ = some _ from hx476_0));(try have hy476_1 := fun (n_ : Nat)=>(show ((((((w71.drewN n_).setCell ⟨gb475,0,none⟩ (.bool false)).setCell ⟨gb475,1,none⟩ (.string ((rd_T35 t470 x6_2).f1))).setCell ⟨gb475,2,none⟩ (.int .i64 ((rd_T35 t470 x6_2).f2))).setCell ⟨gb475,3,none⟩ (.int .i64 ((rd_T35 t470 x6_2).f3)))).cell? _ = some _ from hx476_1));(try have hy476_2 := fun (n_ : Nat)=>(show ((((((w71.drewN n_).setCell ⟨gb475,0,none⟩ (.bool false)).setCell ⟨gb475,1,none⟩ (.string ((rd_T35 t470 x6_2).f1))).setCell ⟨gb475,2,none⟩ (.int .i64 ((rd_T35 t470 x6_2).f2))).setCell ⟨gb475,3,none⟩ (.int .i64 ((rd_T35 t470 x6_2).f3)))).cell? _ = some _ from hx476_2));(try have hy476_3 := fun (n_ : Nat)=>(show ((((((w71.drewN n_).setCell ⟨gb475,0,none⟩ (.bool false)).setCell ⟨gb475,1,none⟩ (.string ((rd_T35 t470 x6_2).f1))).setCell ⟨gb475,2,none⟩ (.int .i64 ((rd_T35 t470 x6_2).f2))).setCell ⟨gb475,3,none⟩ (.int .i64 ((rd_T35 t470 x6_2).f3)))).cell? _ = some _ from hx476_3));clear hn476_0;clear hn476_1;clear hn476_2;clear hn476_3;replace p476 := eq_true p476;replace q476 := eq_true q476)))
              go_ret
              exact ⟨q78_,q17_⟩
            ·rw [if_neg c49] at H
             exact absurd H (by simp)
           ·rw [if_neg c48] at H
            exact absurd H (by simp)
          ·rw [if_neg c46] at H
           have c46b0 : decide (0 < x6_2) = false := decide_eq_false c46
           clear c46
           by_cases c73 : ((rd_T35 t470 x6_2).f1).toList = ([] : List UInt8)
           ·rw [if_pos c73] at H
            have c73b0 : (((rd_T35 t470 x6_2).f1).toList == ([] : List UInt8)) = true := beq_iff_eq.mpr c73
            have c73b1 : (((rd_T35 t470 x6_2).f1).toList != ([] : List UInt8)) = false := bne_eq_false_iff_eq.mpr c73
            clear c73
            obtain rfl := Option.some.inj H
            obtain ⟨Ao74,co74,eo74⟩ := Kd.R_slice HO_3.out
            subst eo74
            have p474 : 0 ≤ (x6_2 : Int) := of_decide_eq_true q3_
            have q474 : x6_2 < (t470.length : Int) := of_decide_eq_true q3_
            obtain ⟨ad474,e474,hx474_0,hx474_1,hx474_2,hx474_3⟩ := at_T35 (Kd.R_reads' HO_3.out).2.2 x6_2 p474 q474
            (try rw [← Nbq14.out] at hx474_0)
            cases e474
            replace p474 := eq_true p474
            replace q474 := eq_true q474
            go_wp2_with (first|((with_reducible refine gate_dst (N := 7) rfl ?_);(try (refine gate_guard (by rfl) ?_;dsimp only));refine box_event ?hg (N := 7) ?hd (cs := #[.bool false,.string (⟨#[]⟩ : ByteArray),.int .i64 0,.int .i64 0]) (t := 35) ?hr ?_;(case hd=>rfl);(case hg=>rfl);(case hr=>first|(go_simp;done)|(go_simp;rfl)|(go_simp;simp [my_u8w];done));intro gb475 hg w75 hbox hb;have n0_ := Aside0.mk (Kd.R_below (Kd.R_elderB q19_ gb475 (Nat.le_of_eq hg.symm)) hb);have n1_ := Aside0.mk (below_step (bl_) hb);have n2_ := Aside0.mk (hbox);have n3_ := Aside0.mk ((by rw [hg];exact (below_size (bl_)) : w.heap.size ≤ gb475));have n4_ := Aside0.mk ((by rw [hg];exact (below_size (bl_)) : w.heap.size ≤ gb475));clear HO_3;clear HB;have HO_3 := n0_;have HB := n1_;have BK475 := n2_;have GW475 := n3_;have GE475 := n4_;clear n0_ n1_ n2_ n3_ n4_;clear hb hbox hg;have hcz76_0 : w75.cell? ⟨gb475,0,none⟩ = some (.bool false) := (blk_cell BK475.out 0).trans rfl;have hcz76_1 : w75.cell? ⟨gb475,1,none⟩ = some (.string (⟨#[]⟩ : ByteArray)) := (blk_cell BK475.out 1).trans rfl;have hcz76_2 : w75.cell? ⟨gb475,2,none⟩ = some (.int .i64 0) := (blk_cell BK475.out 2).trans rfl;have hcz76_3 : w75.cell? ⟨gb475,3,none⟩ = some (.int .i64 0) := (blk_cell BK475.out 3).trans rfl;have hfz76_0 := blk_frozen BK475.out 0;have hfz76_1 := blk_frozen BK475.out 1;have hfz76_2 := blk_frozen BK475.out 2;have hfz76_3 := blk_frozen BK475.out 3))
            repeat (go_quiet (first|((with_reducible refine gate_dst (N := 7) rfl ?_);(try (refine gate_guard (by rfl) ?_;dsimp only));refine box_event ?hg (N := 7) ?hd (cs := #[.bool false,.string (⟨#[]⟩ : ByteArray),.int .i64 0,.int .i64 0]) (t := 35) ?hr ?_;(case hd=>rfl);(case hg=>rfl);(case hr=>first|(go_simp;done)|(go_simp;rfl)|(go_simp;simp [my_u8w];done));intro gb475 hg w75 hbox hb;have n0_ := Aside0.mk (Kd.R_below (Kd.R_elderB q19_ gb475 (Nat.le_of_eq hg.symm)) hb);have n1_ := Aside0.mk (below_step (bl_) hb);have n2_ := Aside0.mk (hbox);have n3_ := Aside0.mk ((by rw [hg];exact (below_size (bl_)) : w.heap.size ≤ gb475));have n4_ := Aside0.mk ((by rw [hg];exact (below_size (bl_)) : w.heap.size ≤ gb475));clear HO_3;clear HB;have HO_3 := n0_;have HB := n1_;have BK475 := n2_;have GW475 := n3_;have GE475 := n4_;clear n0_ n1_ n2_ n3_ n4_;clear hb hbox hg;have hcz76_0 : w75.cell? ⟨gb475,0,none⟩ = some (.bool false) := (blk_cell BK475.out 0).trans rfl;have hcz76_1 : w75.cell? ⟨gb475,1,none⟩ = some (.string (⟨#[]⟩ : ByteArray)) := (blk_cell BK475.out 1).trans rfl;have hcz76_2 : w75.cell? ⟨gb475,2,none⟩ = some (.int .i64 0) := (blk_cell BK475.out 2).trans rfl;have hcz76_3 : w75.cell? ⟨gb475,3,none⟩ = some (.int .i64 0) := (blk_cell BK475.out 3).trans rfl;have hfz76_0 := blk_frozen BK475.out 0;have hfz76_1 := blk_frozen BK475.out 1;have hfz76_2 := blk_frozen BK475.out 2;have hfz76_3 := blk_frozen BK475.out 3));try go_wp2_with (first|((with_reducible refine gate_dst (N := 7) rfl ?_);(try (refine gate_guard (by rfl) ?_;dsimp only));refine box_event ?hg (N := 7) ?hd (cs := #[.bool false,.string (⟨#[]⟩ : ByteArray),.int .i64 0,.int .i64 0]) (t := 35) ?hr ?_;(case hd=>rfl);(case hg=>rfl);(case hr=>first|(go_simp;done)|(go_simp;rfl)|(go_simp;simp [my_u8w];done));intro gb475 hg w75 hbox hb;have n0_ := Aside0.mk (Kd.R_below (Kd.R_elderB q19_ gb475 (Nat.le_of_eq hg.symm)) hb);have n1_ := Aside0.mk (below_step (bl_) hb);have n2_ := Aside0.mk (hbox);have n3_ := Aside0.mk ((by rw [hg];exact (below_size (bl_)) : w.heap.size ≤ gb475));have n4_ := Aside0.mk ((by rw [hg];exact (below_size (bl_)) : w.heap.size ≤ gb475));clear HO_3;clear HB;have HO_3 := n0_;have HB := n1_;have BK475 := n2_;have GW475 := n3_;have GE475 := n4_;clear n0_ n1_ n2_ n3_ n4_;clear hb hbox hg;have hcz76_0 : w75.cell? ⟨gb475,0,none⟩ = some (.bool false) := (blk_cell BK475.out 0).trans rfl;have hcz76_1 : w75.cell? ⟨gb475,1,none⟩ = some (.string (⟨#[]⟩ : ByteArray)) := (blk_cell BK475.out 1).trans rfl;have hcz76_2 : w75.cell? ⟨gb475,2,none⟩ = some (.int .i64 0) := (blk_cell BK475.out 2).trans rfl;have hcz76_3 : w75.cell? ⟨gb475,3,none⟩ = some (.int .i64 0) := (blk_cell BK475.out 3).trans rfl;have hfz76_0 := blk_frozen BK475.out 0;have hfz76_1 := blk_frozen BK475.out 1;have hfz76_2 := blk_frozen BK475.out 2;have hfz76_3 := blk_frozen BK475.out 3)))
            go_ret
            exact ⟨q1_,q17_⟩
           ·rw [if_neg c73] at H
            have c73b0 : (((rd_T35 t470 x6_2).f1).toList == ([] : List UInt8)) = false := beq_eq_false_iff_ne.mpr c73
            have c73b1 : (((rd_T35 t470 x6_2).f1).toList != ([] : List UInt8)) = true := bne_iff_ne.mpr c73
            by_cases c77 : (((rd_T35 t470 x6_2).f1).size : Int) > (wrap64 ((a0.size : Int) - x5_2))
            ·rw [if_pos c77] at H
             have c77b0 : decide ((wrap64 ((a0.size : Int) - x5_2)) < (((rd_T35 t470 x6_2).f1).size : Int)) = true := decide_eq_true c77
             clear c77
             obtain rfl := Option.some.inj H
             obtain ⟨Ao78,co78,eo78⟩ := Kd.R_slice HO_3.out
             subst eo78
             have p474 : 0 ≤ (x6_2 : Int) := of_decide_eq_true q3_
             have q474 : x6_2 < (t470.length : Int) := of_decide_eq_true q3_
             obtain ⟨ad474,e474,hx474_0,hx474_1,hx474_2,hx474_3⟩ := at_T35 (Kd.R_reads' HO_3.out).2.2 x6_2 p474 q474
             (try rw [← Nbq14.out] at hx474_0)
             cases e474
             replace p474 := eq_true p474
             replace q474 := eq_true q474
             go_wp2_with (first|((with_reducible refine gate_dst (N := 7) rfl ?_);(try (refine gate_guard (by rfl) ?_;dsimp only));refine box_event ?hg (N := 7) ?hd (cs := #[.bool false,.string (⟨#[]⟩ : ByteArray),.int .i64 0,.int .i64 0]) (t := 35) ?hr ?_;(case hd=>rfl);(case hg=>rfl);(case hr=>first|(go_simp;done)|(go_simp;rfl)|(go_simp;simp [my_u8w];done));intro gb475 hg w79 hbox hb;have n0_ := Aside0.mk (Kd.R_below (Kd.R_elderB q19_ gb475 (Nat.le_of_eq hg.symm)) hb);have n1_ := Aside0.mk (below_step (bl_) hb);have n2_ := Aside0.mk (hbox);have n3_ := Aside0.mk ((by rw [hg];exact (below_size (bl_)) : w.heap.size ≤ gb475));have n4_ := Aside0.mk ((by rw [hg];exact (below_size (bl_)) : w.heap.size ≤ gb475));clear HO_3;clear HB;have HO_3 := n0_;have HB := n1_;have BK475 := n2_;have GW475 := n3_;have GE475 := n4_;clear n0_ n1_ n2_ n3_ n4_;clear hb hbox hg;have hcz80_0 : w79.cell? ⟨gb475,0,none⟩ = some (.bool false) := (blk_cell BK475.out 0).trans rfl;have hcz80_1 : w79.cell? ⟨gb475,1,none⟩ = some (.string (⟨#[]⟩ : ByteArray)) := (blk_cell BK475.out 1).trans rfl;have hcz80_2 : w79.cell? ⟨gb475,2,none⟩ = some (.int .i64 0) := (blk_cell BK475.out 2).trans rfl;have hcz80_3 : w79.cell? ⟨gb475,3,none⟩ = some (.int .i64 0) := (blk_cell BK475.out 3).trans rfl;have hfz80_0 := blk_frozen BK475.out 0;have hfz80_1 := blk_frozen BK475.out 1;have hfz80_2 := blk_frozen BK475.out 2;have hfz80_3 := blk_frozen BK475.out 3))
             repeat (go_quiet (first|((with_reducible refine gate_dst (N := 7) rfl ?_);(try (refine gate_guard (by rfl) ?_;dsimp only));refine box_event ?hg (N := 7) ?hd (cs := #[.bool false,.string (⟨#[]⟩ : ByteArray),.int .i64 0,.int .i64 0]) (t := 35) ?hr ?_;(case hd=>rfl);(case hg=>rfl);(case hr=>first|(go_simp;done)|(go_simp;rfl)|(go_simp;simp [my_u8w];done));intro gb475 hg w79 hbox hb;have n0_ := Aside0.mk (Kd.R_below (Kd.R_elderB q19_ gb475 (Nat.le_of_eq hg.symm)) hb);have n1_ := Aside0.mk (below_step (bl_) hb);have n2_ := Aside0.mk (hbox);have n3_ := Aside0.mk ((by rw [hg];exact (below_size (bl_)) : w.heap.size ≤ gb475));have n4_ := Aside0.mk ((by rw [hg];exact (below_size (bl_)) : w.heap.size ≤ gb475));clear HO_3;clear HB;have HO_3 := n0_;have HB := n1_;have BK475 := n2_;have GW475 := n3_;have GE475 := n4_;clear n0_ n1_ n2_ n3_ n4_;clear hb hbox hg;have hcz80_0 : w79.cell? ⟨gb475,0,none⟩ = some (.bool false) := (blk_cell BK475.out 0).trans rfl;have hcz80_1 : w79.cell? ⟨gb475,1,none⟩ = some (.string (⟨#[]⟩ : ByteArray)) := (blk_cell BK475.out 1).trans rfl;have hcz80_2 : w79.cell? ⟨gb475,2,none⟩ = some (.int .i64 0) := (blk_cell BK475.out 2).trans rfl;have hcz80_3 : w79.cell? ⟨gb475,3,none⟩ = some (.int .i64 0) := (blk_cell BK475.out 3).trans rfl;have hfz80_0 := blk_frozen BK475.out 0;have hfz80_1 := blk_frozen BK475.out 1;have hfz80_2 := blk_frozen BK475.out 2;have hfz80_3 := blk_frozen BK475.out 3));try go_wp2_with (first|((with_reducible refine gate_dst (N := 7) rfl ?_);(try (refine gate_guard (by rfl) ?_;dsimp only));refine box_event ?hg (N := 7) ?hd (cs := #[.bool false,.string (⟨#[]⟩ : ByteArray),.int .i64 0,.int .i64 0]) (t := 35) ?hr ?_;(case hd=>rfl);(case hg=>rfl);(case hr=>first|(go_simp;done)|(go_simp;rfl)|(go_simp;simp [my_u8w];done));intro gb475 hg w79 hbox hb;have n0_ := Aside0.mk (Kd.R_below (Kd.R_elderB q19_ gb475 (Nat.le_of_eq hg.symm)) hb);have n1_ := Aside0.mk (below_step (bl_) hb);have n2_ := Aside0.mk (hbox);have n3_ := Aside0.mk ((by rw [hg];exact (below_size (bl_)) : w.heap.size ≤ gb475));have n4_ := Aside0.mk ((by rw [hg];exact (below_size (bl_)) : w.heap.size ≤ gb475));clear HO_3;clear HB;have HO_3 := n0_;have HB := n1_;have BK475 := n2_;have GW475 := n3_;have GE475 := n4_;clear n0_ n1_ n2_ n3_ n4_;clear hb hbox hg;have hcz80_0 : w79.cell? ⟨gb475,0,none⟩ = some (.bool false) := (blk_cell BK475.out 0).trans rfl;have hcz80_1 : w79.cell? ⟨gb475,1,none⟩ = some (.string (⟨#[]⟩ : ByteArray)) := (blk_cell BK475.out 1).trans rfl;have hcz80_2 : w79.cell? ⟨gb475,2,none⟩ = some (.int .i64 0) := (blk_cell BK475.out 2).trans rfl;have hcz80_3 : w79.cell? ⟨gb475,3,none⟩ = some (.int .i64 0) := (blk_cell BK475.out 3).trans rfl;have hfz80_0 := blk_frozen BK475.out 0;have hfz80_1 := blk_frozen BK475.out 1;have hfz80_2 := blk_frozen BK475.out 2;have hfz80_3 := blk_frozen BK475.out 3)))
             go_ret
             exact ⟨q1_,q17_⟩
            ·rw [if_neg c77] at H
             have c77b0 : decide ((wrap64 ((a0.size : Int) - x5_2)) < (((rd_T35 t470 x6_2).f1).size : Int)) = false := decide_eq_false c77
             clear c77
             by_cases c81 : 0 ≤ x5_2
             ·rw [if_pos c81] at H
              have c81b0 := eq_true c81
              have c81b1 : decide (0 ≤ x5_2) = true := decide_eq_true c81
              clear c81
              by_cases c82 : x5_2 ≤ (wrap64 (x5_2 + (((rd_T35 t470 x6_2).f1).size : Int)))
              ·rw [if_pos c82] at H
               have c82b0 := eq_true c82
               have c82b1 : decide (x5_2 ≤ (wrap64 (x5_2 + (((rd_T35 t470 x6_2).f1).size : Int)))) = true := decide_eq_true c82
               by_cases c83 : (wrap64 (x5_2 + (((rd_T35 t470 x6_2).f1).size : Int))) ≤ (a0.size : Int)
               ·rw [if_pos c83] at H
                have c83b0 := eq_true c83
                have c83b1 : decide ((wrap64 (x5_2 + (((rd_T35 t470 x6_2).f1).size : Int))) ≤ (a0.size : Int)) = true := decide_eq_true c83
                by_cases c84 : (a0.extract (x5_2 : Int).toNat ((wrap64 (x5_2 + (((rd_T35 t470 x6_2).f1).size : Int))) : Int).toNat).toList = ((rd_T35 t470 x6_2).f1).toList
                ·rw [if_pos c84] at H
                 have c84b0 : ((a0.extract (x5_2 : Int).toNat ((wrap64 (x5_2 + (((rd_T35 t470 x6_2).f1).size : Int))) : Int).toNat).toList == ((rd_T35 t470 x6_2).f1).toList) = true := beq_iff_eq.mpr c84
                 have c84b1 : ((a0.extract (x5_2 : Int).toNat ((wrap64 (x5_2 + (((rd_T35 t470 x6_2).f1).size : Int))) : Int).toNat).toList != ((rd_T35 t470 x6_2).f1).toList) = false := bne_eq_false_iff_eq.mpr c84
                 clear c84
                 have H' := Aside0.mk H
                 clear H
                 obtain ⟨Ao85,co85,eo85⟩ := Kd.R_slice HO_3.out
                 subst eo85
                 have p474 : 0 ≤ (x6_2 : Int) := of_decide_eq_true q3_
                 have q474 : x6_2 < (t470.length : Int) := of_decide_eq_true q3_
                 obtain ⟨ad474,e474,hx474_0,hx474_1,hx474_2,hx474_3⟩ := at_T35 (Kd.R_reads' HO_3.out).2.2 x6_2 p474 q474
                 (try rw [← Nbq14.out] at hx474_0)
                 cases e474
                 replace p474 := eq_true p474
                 replace q474 := eq_true q474
                 go_wp2_with (first|((with_reducible refine gate_dst (N := 7) rfl ?_);(try (refine gate_guard (by rfl) ?_;dsimp only));refine box_event ?hg (N := 7) ?hd (cs := #[.bool false,.string (⟨#[]⟩ : ByteArray),.int .i64 0,.int .i64 0]) (t := 35) ?hr ?_;(case hd=>rfl);(case hg=>rfl);(case hr=>first|(go_simp;done)|(go_simp;rfl)|(go_simp;simp [my_u8w];done));intro gb475 hg w86 hbox hb;have n0_ := Aside0.mk (Kd.R_below (Kd.R_elderB q19_ gb475 (Nat.le_of_eq hg.symm)) hb);have n1_ := Aside0.mk (below_step (bl_) hb);have n2_ := Aside0.mk (hbox);have n3_ := Aside0.mk ((by rw [hg];exact (below_size (bl_)) : w.heap.size ≤ gb475));have n4_ := Aside0.mk ((by rw [hg];exact (below_size (bl_)) : w.heap.size ≤ gb475));clear HO_3;clear HB;have HO_3 := n0_;have HB := n1_;have BK475 := n2_;have GW475 := n3_;have GE475 := n4_;clear n0_ n1_ n2_ n3_ n4_;clear hb hbox hg;have hcz87_0 : w86.cell? ⟨gb475,0,none⟩ = some (.bool false) := (blk_cell BK475.out 0).trans rfl;have hcz87_1 : w86.cell? ⟨gb475,1,none⟩ = some (.string (⟨#[]⟩ : ByteArray)) := (blk_cell BK475.out 1).trans rfl;have hcz87_2 : w86.cell? ⟨gb475,2,none⟩ = some (.int .i64 0) := (blk_cell BK475.out 2).trans rfl;have hcz87_3 : w86.cell? ⟨gb475,3,none⟩ = some (.int .i64 0) := (blk_cell BK475.out 3).trans rfl;have hfz87_0 := blk_frozen BK475.out 0;have hfz87_1 := blk_frozen BK475.out 1;have hfz87_2 := blk_frozen BK475.out 2;have hfz87_3 := blk_frozen BK475.out 3))
                 repeat (go_quiet (first|((with_reducible refine gate_dst (N := 7) rfl ?_);(try (refine gate_guard (by rfl) ?_;dsimp only));refine box_event ?hg (N := 7) ?hd (cs := #[.bool false,.string (⟨#[]⟩ : ByteArray),.int .i64 0,.int .i64 0]) (t := 35) ?hr ?_;(case hd=>rfl);(case hg=>rfl);(case hr=>first|(go_simp;done)|(go_simp;rfl)|(go_simp;simp [my_u8w];done));intro gb475 hg w86 hbox hb;have n0_ := Aside0.mk (Kd.R_below (Kd.R_elderB q19_ gb475 (Nat.le_of_eq hg.symm)) hb);have n1_ := Aside0.mk (below_step (bl_) hb);have n2_ := Aside0.mk (hbox);have n3_ := Aside0.mk ((by rw [hg];exact (below_size (bl_)) : w.heap.size ≤ gb475));have n4_ := Aside0.mk ((by rw [hg];exact (below_size (bl_)) : w.heap.size ≤ gb475));clear HO_3;clear HB;have HO_3 := n0_;have HB := n1_;have BK475 := n2_;have GW475 := n3_;have GE475 := n4_;clear n0_ n1_ n2_ n3_ n4_;clear hb hbox hg;have hcz87_0 : w86.cell? ⟨gb475,0,none⟩ = some (.bool false) := (blk_cell BK475.out 0).trans rfl;have hcz87_1 : w86.cell? ⟨gb475,1,none⟩ = some (.string (⟨#[]⟩ : ByteArray)) := (blk_cell BK475.out 1).trans rfl;have hcz87_2 : w86.cell? ⟨gb475,2,none⟩ = some (.int .i64 0) := (blk_cell BK475.out 2).trans rfl;have hcz87_3 : w86.cell? ⟨gb475,3,none⟩ = some (.int .i64 0) := (blk_cell BK475.out 3).trans rfl;have hfz87_0 := blk_frozen BK475.out 0;have hfz87_1 := blk_frozen BK475.out 1;have hfz87_2 := blk_frozen BK475.out 2;have hfz87_3 := blk_frozen BK475.out 3));try go_wp2_with (first|((with_reducible refine gate_dst (N := 7) rfl ?_);(try (refine gate_guard (by rfl) ?_;dsimp only));refine box_event ?hg (N := 7) ?hd (cs := #[.bool false,.string (⟨#[]⟩ : ByteArray),.int .i64 0,.int .i64 0]) (t := 35) ?hr ?_;(case hd=>rfl);(case hg=>rfl);(case hr=>first|(go_simp;done)|(go_simp;rfl)|(go_simp;simp [my_u8w];done));intro gb475 hg w86 hbox hb;have n0_ := Aside0.mk (Kd.R_below (Kd.R_elderB q19_ gb475 (Nat.le_of_eq hg.symm)) hb);have n1_ := Aside0.mk (below_step (bl_) hb);have n2_ := Aside0.mk (hbox);have n3_ := Aside0.mk ((by rw [hg];exact (below_size (bl_)) : w.heap.size ≤ gb475));have n4_ := Aside0.mk ((by rw [hg];exact (below_size (bl_)) : w.heap.size ≤ gb475));clear HO_3;clear HB;have HO_3 := n0_;have HB := n1_;have BK475 := n2_;have GW475 := n3_;have GE475 := n4_;clear n0_ n1_ n2_ n3_ n4_;clear hb hbox hg;have hcz87_0 : w86.cell? ⟨gb475,0,none⟩ = some (.bool false) := (blk_cell BK475.out 0).trans rfl;have hcz87_1 : w86.cell? ⟨gb475,1,none⟩ = some (.string (⟨#[]⟩ : ByteArray)) := (blk_cell BK475.out 1).trans rfl;have hcz87_2 : w86.cell? ⟨gb475,2,none⟩ = some (.int .i64 0) := (blk_cell BK475.out 2).trans rfl;have hcz87_3 : w86.cell? ⟨gb475,3,none⟩ = some (.int .i64 0) := (blk_cell BK475.out 3).trans rfl;have hfz87_0 := blk_frozen BK475.out 0;have hfz87_1 := blk_frozen BK475.out 1;have hfz87_2 := blk_frozen BK475.out 2;have hfz87_3 := blk_frozen BK475.out 3)))
                 go_roundg k2
                 case measure=>have := HJ1.out;have := HK2.out;omega
                 case rel=>exact ⟨(wrap64 (x5_2 + (((rd_T35 t470 x6_2).f1).size : Int))),(wrap64 (x6_2 + 1)),q4_,q4_,H',⟨by have := HJ1.out;have := HK2.out;omega⟩,⟨q76_⟩,⟨q17_⟩⟩
                ·rw [if_neg c84] at H
                 have c84b0 : ((a0.extract (x5_2 : Int).toNat ((wrap64 (x5_2 + (((rd_T35 t470 x6_2).f1).size : Int))) : Int).toNat).toList == ((rd_T35 t470 x6_2).f1).toList) = false := beq_eq_false_iff_ne.mpr c84
                 have c84b1 : ((a0.extract (x5_2 : Int).toNat ((wrap64 (x5_2 + (((rd_T35 t470 x6_2).f1).size : Int))) : Int).toNat).toList != ((rd_T35 t470 x6_2).f1).toList) = true := bne_iff_ne.mpr c84
                 obtain rfl := Option.some.inj H
                 obtain ⟨Ao88,co88,eo88⟩ := Kd.R_slice HO_3.out
                 subst eo88
                 have p474 : 0 ≤ (x6_2 : Int) := of_decide_eq_true q3_
                 have q474 : x6_2 < (t470.length : Int) := of_decide_eq_true q3_
                 obtain ⟨ad474,e474,hx474_0,hx474_1,hx474_2,hx474_3⟩ := at_T35 (Kd.R_reads' HO_3.out).2.2 x6_2 p474 q474
                 (try rw [← Nbq14.out] at hx474_0)
                 cases e474
                 replace p474 := eq_true p474
                 replace q474 := eq_true q474
                 go_wp2_with (first|((with_reducible refine gate_dst (N := 7) rfl ?_);(try (refine gate_guard (by rfl) ?_;dsimp only));refine box_event ?hg (N := 7) ?hd (cs := #[.bool false,.string (⟨#[]⟩ : ByteArray),.int .i64 0,.int .i64 0]) (t := 35) ?hr ?_;(case hd=>rfl);(case hg=>rfl);(case hr=>first|(go_simp;done)|(go_simp;rfl)|(go_simp;simp [my_u8w];done));intro gb475 hg w89 hbox hb;have n0_ := Aside0.mk (Kd.R_below (Kd.R_elderB q19_ gb475 (Nat.le_of_eq hg.symm)) hb);have n1_ := Aside0.mk (below_step (bl_) hb);have n2_ := Aside0.mk (hbox);have n3_ := Aside0.mk ((by rw [hg];exact (below_size (bl_)) : w.heap.size ≤ gb475));have n4_ := Aside0.mk ((by rw [hg];exact (below_size (bl_)) : w.heap.size ≤ gb475));clear HO_3;clear HB;have HO_3 := n0_;have HB := n1_;have BK475 := n2_;have GW475 := n3_;have GE475 := n4_;clear n0_ n1_ n2_ n3_ n4_;clear hb hbox hg;have hcz90_0 : w89.cell? ⟨gb475,0,none⟩ = some (.bool false) := (blk_cell BK475.out 0).trans rfl;have hcz90_1 : w89.cell? ⟨gb475,1,none⟩ = some (.string (⟨#[]⟩ : ByteArray)) := (blk_cell BK475.out 1).trans rfl;have hcz90_2 : w89.cell? ⟨gb475,2,none⟩ = some (.int .i64 0) := (blk_cell BK475.out 2).trans rfl;have hcz90_3 : w89.cell? ⟨gb475,3,none⟩ = some (.int .i64 0) := (blk_cell BK475.out 3).trans rfl;have hfz90_0 := blk_frozen BK475.out 0;have hfz90_1 := blk_frozen BK475.out 1;have hfz90_2 := blk_frozen BK475.out 2;have hfz90_3 := blk_frozen BK475.out 3))
                 repeat (go_quiet (first|((with_reducible refine gate_dst (N := 7) rfl ?_);(try (refine gate_guard (by rfl) ?_;dsimp only));refine box_event ?hg (N := 7) ?hd (cs := #[.bool false,.string (⟨#[]⟩ : ByteArray),.int .i64 0,.int .i64 0]) (t := 35) ?hr ?_;(case hd=>rfl);(case hg=>rfl);(case hr=>first|(go_simp;done)|(go_simp;rfl)|(go_simp;simp [my_u8w];done));intro gb475 hg w89 hbox hb;have n0_ := Aside0.mk (Kd.R_below (Kd.R_elderB q19_ gb475 (Nat.le_of_eq hg.symm)) hb);have n1_ := Aside0.mk (below_step (bl_) hb);have n2_ := Aside0.mk (hbox);have n3_ := Aside0.mk ((by rw [hg];exact (below_size (bl_)) : w.heap.size ≤ gb475));have n4_ := Aside0.mk ((by rw [hg];exact (below_size (bl_)) : w.heap.size ≤ gb475));clear HO_3;clear HB;have HO_3 := n0_;have HB := n1_;have BK475 := n2_;have GW475 := n3_;have GE475 := n4_;clear n0_ n1_ n2_ n3_ n4_;clear hb hbox hg;have hcz90_0 : w89.cell? ⟨gb475,0,none⟩ = some (.bool false) := (blk_cell BK475.out 0).trans rfl;have hcz90_1 : w89.cell? ⟨gb475,1,none⟩ = some (.string (⟨#[]⟩ : ByteArray)) := (blk_cell BK475.out 1).trans rfl;have hcz90_2 : w89.cell? ⟨gb475,2,none⟩ = some (.int .i64 0) := (blk_cell BK475.out 2).trans rfl;have hcz90_3 : w89.cell? ⟨gb475,3,none⟩ = some (.int .i64 0) := (blk_cell BK475.out 3).trans rfl;have hfz90_0 := blk_frozen BK475.out 0;have hfz90_1 := blk_frozen BK475.out 1;have hfz90_2 := blk_frozen BK475.out 2;have hfz90_3 := blk_frozen BK475.out 3));try go_wp2_with (first|((with_reducible refine gate_dst (N := 7) rfl ?_);(try (refine gate_guard (by rfl) ?_;dsimp only));refine box_event ?hg (N := 7) ?hd (cs := #[.bool false,.string (⟨#[]⟩ : ByteArray),.int .i64 0,.int .i64 0]) (t := 35) ?hr ?_;(case hd=>rfl);(case hg=>rfl);(case hr=>first|(go_simp;done)|(go_simp;rfl)|(go_simp;simp [my_u8w];done));intro gb475 hg w89 hbox hb;have n0_ := Aside0.mk (Kd.R_below (Kd.R_elderB q19_ gb475 (Nat.le_of_eq hg.symm)) hb);have n1_ := Aside0.mk (below_step (bl_) hb);have n2_ := Aside0.mk (hbox);have n3_ := Aside0.mk ((by rw [hg];exact (below_size (bl_)) : w.heap.size ≤ gb475));have n4_ := Aside0.mk ((by rw [hg];exact (below_size (bl_)) : w.heap.size ≤ gb475));clear HO_3;clear HB;have HO_3 := n0_;have HB := n1_;have BK475 := n2_;have GW475 := n3_;have GE475 := n4_;clear n0_ n1_ n2_ n3_ n4_;clear hb hbox hg;have hcz90_0 : w89.cell? ⟨gb475,0,none⟩ = some (.bool false) := (blk_cell BK475.out 0).trans rfl;have hcz90_1 : w89.cell? ⟨gb475,1,none⟩ = some (.string (⟨#[]⟩ : ByteArray)) := (blk_cell BK475.out 1).trans rfl;have hcz90_2 : w89.cell? ⟨gb475,2,none⟩ = some (.int .i64 0) := (blk_cell BK475.out 2).trans rfl;have hcz90_3 : w89.cell? ⟨gb475,3,none⟩ = some (.int .i64 0) := (blk_cell BK475.out 3).trans rfl;have hfz90_0 := blk_frozen BK475.out 0;have hfz90_1 := blk_frozen BK475.out 1;have hfz90_2 := blk_frozen BK475.out 2;have hfz90_3 := blk_frozen BK475.out 3)))
                 go_ret
                 exact ⟨q1_,q17_⟩
               ·rw [if_neg c83] at H
                exact absurd H (by simp)
              ·rw [if_neg c82] at H
               exact absurd H (by simp)
             ·rw [if_neg c81] at H
              exact absurd H (by simp)
        ·rw [if_neg c13] at H
         exact absurd H (by simp)
       ·rw [if_neg c12] at H
        have c12b0 : decide (x6_2 < (t470.length : Int)) = false := decide_eq_false c12
        clear c12
        obtain rfl := Option.some.inj H
        obtain ⟨Ao91,co91,eo91⟩ := Kd.R_slice HO_3.out
        subst eo91
        go_wp2
        repeat (go_quiet (fail);try go_wp2)
        go_ret
        exact ⟨q1_,bl_⟩
    ·rw [if_neg c10] at H
     have c10b0 : (t471 == 0) = false := beq_eq_false_iff_ne.mpr c10
     have c10b1 : (t471 != 0) = true := bne_iff_ne.mpr c10
     obtain rfl := Option.some.inj H
     go_wp2_with (first|(go_at_call 15;(with_reducible refine (snappy_Pack.calls kj1 a0 t470 t471 _ A9.out).mono ?_);rintro e w92 ⟨v472,rfl,ho0,hb⟩;have n0_ := Aside0.mk (Kd.R_lower ho0 (below_size (bl_)));have n1_ := Aside0.mk (below_step (bl_) hb);clear HB;have HO473 := n0_;have HB := n1_;clear n0_ n1_;(try clear hb);(try clear hb2);(try clear hk);(try clear hi);(try clear ho0)))
     repeat (go_quiet (first|(go_at_call 15;(with_reducible refine (snappy_Pack.calls kj1 a0 t470 t471 _ A9.out).mono ?_);rintro e w92 ⟨v472,rfl,ho0,hb⟩;have n0_ := Aside0.mk (Kd.R_lower ho0 (below_size (bl_)));have n1_ := Aside0.mk (below_step (bl_) hb);clear HB;have HO473 := n0_;have HB := n1_;clear n0_ n1_;(try clear hb);(try clear hb2);(try clear hk);(try clear hi);(try clear ho0)));try go_wp2_with (first|(go_at_call 15;(with_reducible refine (snappy_Pack.calls kj1 a0 t470 t471 _ A9.out).mono ?_);rintro e w92 ⟨v472,rfl,ho0,hb⟩;have n0_ := Aside0.mk (Kd.R_lower ho0 (below_size (bl_)));have n1_ := Aside0.mk (below_step (bl_) hb);clear HB;have HO473 := n0_;have HB := n1_;clear n0_ n1_;(try clear hb);(try clear hb2);(try clear hk);(try clear hi);(try clear ho0))))
     go_ret
     exact ⟨q1_,bl_⟩

/-- THE ONE PURE STATEMENT of batonlaw03_SnappyEach: yours. -/
def batonlaw03_SnappyEach.Pure : Prop := ∀ (a0 : ByteArray), a0.size ≤ 140737488351232 → ∃ k, batonlaw03_SnappyEach.f k a0 = some true
theorem batonlaw03_SnappyEach.walk (P : batonlaw03_SnappyEach.Pure) (a0 : ByteArray) (w : World) (w0 : a0.size ≤ 140737488351232) :
  Calls Try.prog 9 #[.string a0] w fun e w'=>e = .returned (.bool true) ∧ Below w.heap.size w w' := by
 obtain ⟨k,h⟩ := P a0 w0
 refine (batonlaw03_SnappyEach.calls k a0 true w h).mono ?_
 rintro e w' ⟨rfl,hd⟩
 exact ⟨rfl,hd⟩

end Go.Proofs.Ythcjcmgdblhhfaa.PV

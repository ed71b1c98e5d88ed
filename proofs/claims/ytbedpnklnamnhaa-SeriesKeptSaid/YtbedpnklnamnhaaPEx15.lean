/- The machine side of these statements: what each Go function computes as a plain function, and that its call computes just that. Written by a program of mine (wip/drive.py). No conditions. -/
import Derived.Test.YtbedpnklnamnhaaPEx0
import Derived.Test.YtbedpnklnamnhaaPEx3
import Derived.Test.YtbedpnklnamnhaaPEx6
import Derived.Test.YtbedpnklnamnhaaPEx7
import Derived.Test.YtbedpnklnamnhaaPEx10
import Derived.Test.YtbedpnklnamnhaaPEx11
import Derived.Test.YtbedpnklnamnhaaPEx14
namespace Go.Proofs.Ytbedpnklnamnhaa.PE
open Go.RowKit Go.Proofs.YtbedpnklnamnhaaW.PrintWords Go.Proofs.YtbedpnklnamnhaaW.PrintLast Go.Proofs.YtbedpnklnamnhaaW.PrintMore
attribute [local go_sem] max2_int min2_int max_two min_two max_three min_three max_four min_four   -- for this text's walks alone
set_option linter.unusedVariables false
set_option linter.unusedSimpArgs false

/-! ### batonlaw22_SeriesKept: function 8 -/
mutual
def batonlaw22_SeriesKept.j0 : Nat → List (S25) → List (S25) → Bool → Option (Bool)
  | 0, _, _, _ => none
  | k + 1, x0, x1, x28 => if x28 = true then ((batonlaw22_awake.f k).bind fun t223 => (some t223)) else ((series_Put.f k x0 x1).bind fun bt224 => (if bt224.2.2 = 0 then (if (bt224.2.1.length : Int) = (x1.length : Int) then (if (bt224.1.length : Int) < (x0.length : Int) then (batonlaw22_SeriesKept.j1 k x0 x1 bt224.1 bt224.2.1 true) else (if 0 ≤ (x0.length : Int) then (if (x0.length : Int) ≤ (bt224.1.length : Int) then ((batonref22_Same.f k (bt224.1.take ((x0.length : Int) : Int).toNat) x0).bind fun t235 => (if t235 = true then ((series_May.f k bt224.1).bind fun t236 => (batonlaw22_SeriesKept.j1 k x0 x1 bt224.1 bt224.2.1 (!t236))) else (batonlaw22_SeriesKept.j1 k x0 x1 bt224.1 bt224.2.1 true))) else (none)) else (none))) else (batonlaw22_SeriesKept.j1 k x0 x1 bt224.1 bt224.2.1 true)) else (batonlaw22_SeriesKept.j1 k x0 x1 bt224.1 bt224.2.1 true)))
def batonlaw22_SeriesKept.j1 : Nat → List (S25) → List (S25) → List (S25) → List Int → Bool → Option (Bool)
  | 0, _, _, _, _, _ => none
  | k + 1, x0, x1, x5, x6, x66 => if x66 = true then (none) else (batonlaw22_SeriesKept.l0 k x0 x1 x5 x6 ([] : List (S25)) 0)
def batonlaw22_SeriesKept.l0 : Nat → List (S25) → List (S25) → List (S25) → List Int → List (S25) → Int → Option (Bool)
  | 0, _, _, _, _, _, _ => none
  | k + 1, x0, x1, x5, x6, x8, x9 => if x9 < (x6.length : Int) then (if 0 ≤ x9 then (if (rd x6 x9) < 1 then (batonlaw22_SeriesKept.j3 k x0 x1 x5 x6 x8 x9 true) else (batonlaw22_SeriesKept.j3 k x0 x1 x5 x6 x8 x9 (decide ((rd x6 x9) > 4)))) else (none)) else ((series_Join.f k x0 x8).bind fun bt244 => (if 0 ≤ (x0.length : Int) then (if (x0.length : Int) ≤ (x5.length : Int) then ((batonref22_Same.f k (x5.drop ((x0.length : Int) : Int).toNat) x8).bind fun t252 => (if t252 = true then (if bt244.2 = 0 then ((batonref22_Same.f k bt244.1 x5).bind fun t253 => (if t253 = true then ((series_Count.f x6).bind fun bt254 => (some (bt254.2.1 == (x8.length : Int)))) else (none))) else (none)) else (none))) else (none)) else (none)))
def batonlaw22_SeriesKept.j3 : Nat → List (S25) → List (S25) → List (S25) → List Int → List (S25) → Int → Bool → Option (Bool)
  | 0, _, _, _, _, _, _, _ => none
  | k + 1, x0, x1, x5, x6, x8, x9, x84 => if x84 = true then (none) else (if 0 ≤ x9 then (if x9 < (x6.length : Int) then (if (rd x6 x9) = 1 then (if x9 < (x1.length : Int) then (if x8.length < 8796093022208 then (batonlaw22_SeriesKept.l0 k x0 x1 x5 x6 (x8 ++ [(⟨(rd_T25 x1 x9).f0, (rd_T25 x1 x9).f1⟩ : S25)]) (wrap64 (x9 + 1))) else (none)) else (none)) else (batonlaw22_SeriesKept.l0 k x0 x1 x5 x6 x8 (wrap64 (x9 + 1)))) else (none)) else (none))
end
def batonlaw22_SeriesKept.f (k : Nat) (l0 : List (S25)) (l1 : List (S25)) : Option (Bool) := if (l0.length : Int) > 500 then (batonlaw22_SeriesKept.j0 k l0 l1 true) else (if (l1.length : Int) > 500 then (batonlaw22_SeriesKept.j0 k l0 l1 true) else ((series_May.f k l0).bind fun t221 => (if t221 = true then ((batonlaw22_awake.f k).bind fun t222 => (batonlaw22_SeriesKept.j0 k l0 l1 (!t222))) else (batonlaw22_SeriesKept.j0 k l0 l1 true))))
theorem batonlaw22_SeriesKept.mono_l : ∀ k, (∀ y0 y1 y2, LeO (batonlaw22_SeriesKept.j0 k y0 y1 y2) (batonlaw22_SeriesKept.j0 (k + 1) y0 y1 y2)) ∧ (∀ y0 y1 y2 y3 y4, LeO (batonlaw22_SeriesKept.j1 k y0 y1 y2 y3 y4) (batonlaw22_SeriesKept.j1 (k + 1) y0 y1 y2 y3 y4)) ∧ (∀ y0 y1 y2 y3 y4 y5, LeO (batonlaw22_SeriesKept.l0 k y0 y1 y2 y3 y4 y5) (batonlaw22_SeriesKept.l0 (k + 1) y0 y1 y2 y3 y4 y5)) ∧ (∀ y0 y1 y2 y3 y4 y5 y6, LeO (batonlaw22_SeriesKept.j3 k y0 y1 y2 y3 y4 y5 y6) (batonlaw22_SeriesKept.j3 (k + 1) y0 y1 y2 y3 y4 y5 y6))
  | 0 => ⟨fun _ _ _ r h => by simp [batonlaw22_SeriesKept.j0] at h, fun _ _ _ _ _ r h => by simp [batonlaw22_SeriesKept.j1] at h, fun _ _ _ _ _ _ r h => by simp [batonlaw22_SeriesKept.l0] at h, fun _ _ _ _ _ _ _ r h => by simp [batonlaw22_SeriesKept.j3] at h⟩
  | k + 1 => by
    obtain ⟨ih0, ih1, ih2, ih3⟩ := batonlaw22_SeriesKept.mono_l k
    refine ⟨?_, ?_, ?_, ?_⟩
    · intro y0 y1 y2
      unfold batonlaw22_SeriesKept.j0
      repeat' first
      | (with_reducible exact ih0 _ _ _)
      | (with_reducible exact ih1 _ _ _ _ _)
      | (with_reducible exact ih2 _ _ _ _ _ _)
      | (with_reducible exact ih3 _ _ _ _ _ _ _)
      | (with_reducible exact batonlaw22_awake.mono _)
      | (with_reducible exact batonref22_Same.mono _ _ _)
      | (with_reducible exact series_Join.mono _ _ _)
      | (with_reducible exact series_May.mono _ _)
      | (with_reducible exact series_Put.mono _ _ _)
      | (with_reducible exact LeO.refl _)
      | (with_reducible exact LeO.none _)
      | (with_reducible refine LeO.ite ?_ ?_)
      | (with_reducible refine LeO.bind ?_ (fun _ => ?_))
      | exact ih0 _ _ _
      | exact ih1 _ _ _ _ _
      | exact ih2 _ _ _ _ _ _
      | exact ih3 _ _ _ _ _ _ _
      | exact batonlaw22_awake.mono _
      | exact batonref22_Same.mono _ _ _
      | exact series_Join.mono _ _ _
      | exact series_May.mono _ _
      | exact series_Put.mono _ _ _
      | exact LeO.none _
      | refine LeO.ite ?_ ?_
      | refine LeO.bind ?_ (fun _ => ?_)
    · intro y0 y1 y2 y3 y4
      unfold batonlaw22_SeriesKept.j1
      repeat' first
      | (with_reducible exact ih0 _ _ _)
      | (with_reducible exact ih1 _ _ _ _ _)
      | (with_reducible exact ih2 _ _ _ _ _ _)
      | (with_reducible exact ih3 _ _ _ _ _ _ _)
      | (with_reducible exact batonlaw22_awake.mono _)
      | (with_reducible exact batonref22_Same.mono _ _ _)
      | (with_reducible exact series_Join.mono _ _ _)
      | (with_reducible exact series_May.mono _ _)
      | (with_reducible exact series_Put.mono _ _ _)
      | (with_reducible exact LeO.refl _)
      | (with_reducible exact LeO.none _)
      | (with_reducible refine LeO.ite ?_ ?_)
      | (with_reducible refine LeO.bind ?_ (fun _ => ?_))
      | exact ih0 _ _ _
      | exact ih1 _ _ _ _ _
      | exact ih2 _ _ _ _ _ _
      | exact ih3 _ _ _ _ _ _ _
      | exact batonlaw22_awake.mono _
      | exact batonref22_Same.mono _ _ _
      | exact series_Join.mono _ _ _
      | exact series_May.mono _ _
      | exact series_Put.mono _ _ _
      | exact LeO.none _
      | refine LeO.ite ?_ ?_
      | refine LeO.bind ?_ (fun _ => ?_)
    · intro y0 y1 y2 y3 y4 y5
      unfold batonlaw22_SeriesKept.l0
      repeat' first
      | (with_reducible exact ih0 _ _ _)
      | (with_reducible exact ih1 _ _ _ _ _)
      | (with_reducible exact ih2 _ _ _ _ _ _)
      | (with_reducible exact ih3 _ _ _ _ _ _ _)
      | (with_reducible exact batonlaw22_awake.mono _)
      | (with_reducible exact batonref22_Same.mono _ _ _)
      | (with_reducible exact series_Join.mono _ _ _)
      | (with_reducible exact series_May.mono _ _)
      | (with_reducible exact series_Put.mono _ _ _)
      | (with_reducible exact LeO.refl _)
      | (with_reducible exact LeO.none _)
      | (with_reducible refine LeO.ite ?_ ?_)
      | (with_reducible refine LeO.bind ?_ (fun _ => ?_))
      | exact ih0 _ _ _
      | exact ih1 _ _ _ _ _
      | exact ih2 _ _ _ _ _ _
      | exact ih3 _ _ _ _ _ _ _
      | exact batonlaw22_awake.mono _
      | exact batonref22_Same.mono _ _ _
      | exact series_Join.mono _ _ _
      | exact series_May.mono _ _
      | exact series_Put.mono _ _ _
      | exact LeO.none _
      | refine LeO.ite ?_ ?_
      | refine LeO.bind ?_ (fun _ => ?_)
    · intro y0 y1 y2 y3 y4 y5 y6
      unfold batonlaw22_SeriesKept.j3
      repeat' first
      | (with_reducible exact ih0 _ _ _)
      | (with_reducible exact ih1 _ _ _ _ _)
      | (with_reducible exact ih2 _ _ _ _ _ _)
      | (with_reducible exact ih3 _ _ _ _ _ _ _)
      | (with_reducible exact batonlaw22_awake.mono _)
      | (with_reducible exact batonref22_Same.mono _ _ _)
      | (with_reducible exact series_Join.mono _ _ _)
      | (with_reducible exact series_May.mono _ _)
      | (with_reducible exact series_Put.mono _ _ _)
      | (with_reducible exact LeO.refl _)
      | (with_reducible exact LeO.none _)
      | (with_reducible refine LeO.ite ?_ ?_)
      | (with_reducible refine LeO.bind ?_ (fun _ => ?_))
      | exact ih0 _ _ _
      | exact ih1 _ _ _ _ _
      | exact ih2 _ _ _ _ _ _
      | exact ih3 _ _ _ _ _ _ _
      | exact batonlaw22_awake.mono _
      | exact batonref22_Same.mono _ _ _
      | exact series_Join.mono _ _ _
      | exact series_May.mono _ _
      | exact series_Put.mono _ _ _
      | exact LeO.none _
      | refine LeO.ite ?_ ?_
      | refine LeO.bind ?_ (fun _ => ?_)
theorem batonlaw22_SeriesKept.mono : ∀ a0 a1 k, LeO (batonlaw22_SeriesKept.f k a0 a1) (batonlaw22_SeriesKept.f (k + 1) a0 a1) := by
  intro a0 a1 k
  obtain ⟨ih0, ih1, ih2, ih3⟩ := batonlaw22_SeriesKept.mono_l k
  unfold batonlaw22_SeriesKept.f
  repeat' first
      | (with_reducible exact ih0 _ _ _)
      | (with_reducible exact ih1 _ _ _ _ _)
      | (with_reducible exact ih2 _ _ _ _ _ _)
      | (with_reducible exact ih3 _ _ _ _ _ _ _)
      | (with_reducible exact batonlaw22_awake.mono _)
      | (with_reducible exact batonref22_Same.mono _ _ _)
      | (with_reducible exact series_Join.mono _ _ _)
      | (with_reducible exact series_May.mono _ _)
      | (with_reducible exact series_Put.mono _ _ _)
      | (with_reducible exact LeO.refl _)
      | (with_reducible exact LeO.none _)
      | (with_reducible refine LeO.ite ?_ ?_)
      | (with_reducible refine LeO.bind ?_ (fun _ => ?_))
      | exact ih0 _ _ _
      | exact ih1 _ _ _ _ _
      | exact ih2 _ _ _ _ _ _
      | exact ih3 _ _ _ _ _ _ _
      | exact batonlaw22_awake.mono _
      | exact batonref22_Same.mono _ _ _
      | exact series_Join.mono _ _ _
      | exact series_May.mono _ _
      | exact series_Put.mono _ _ _
      | exact LeO.none _
      | refine LeO.ite ?_ ?_
      | refine LeO.bind ?_ (fun _ => ?_)
set_option maxHeartbeats 8000000 in
set_option maxRecDepth 100000 in
theorem batonlaw22_SeriesKept.calls (k : Nat) (A0 : Option Addr) (c0 : Nat) (l0 : List (S25)) (A1 : Option Addr) (c1 : Nat) (l1 : List (S25)) (r : Bool) (w : World) (hr0 : Kd.C k25 w A0 l0.length l0) (hc0 : l0.length ≤ c0) (hr1 : Kd.C k25 w A1 l1.length l1) (hc1 : l1.length ≤ c1) (h : batonlaw22_SeriesKept.f k l0 l1 = some r) :
    Calls Try.prog 8 #[.slice A0 l0.length c0, .slice A1 l1.length c1] w fun e w' => e = .returned (.bool r) ∧ Below w.heap.size w w' := by
  have hu25 := Try.underlying25
  have hix45_1 : ∀ (x0_ x1_ x2_ x3_ x4_ : Value) (W_ : World), (Instr.index 45 (.agg #[x0_, x1_, x2_, x3_, x4_]) (.int .u8 1)).run Try.prog W_ = .ok x1_ W_ := fun x0_ x1_ x2_ x3_ x4_ W_ => by kernel_rfl
  have HR0 := Aside0.mk hr0
  have HC0 := Aside0.mk hc0
  clear hr0 hc0
  have HR1 := Aside0.mk hr1
  have HC1 := Aside0.mk hc1
  clear hr1 hc1
  have HB := Aside0.mk (Below.refl w.heap.size w)
  have H : (if (l0.length : Int) > 500 then (batonlaw22_SeriesKept.j0 k l0 l1 true) else (if (l1.length : Int) > 500 then (batonlaw22_SeriesKept.j0 k l0 l1 true) else ((series_May.f k l0).bind fun t221 => (if t221 = true then ((batonlaw22_awake.f k).bind fun t222 => (batonlaw22_SeriesKept.j0 k l0 l1 (!t222))) else (batonlaw22_SeriesKept.j0 k l0 l1 true))))) = some r := h
  clear h
  have HC3 := Aside0.mk H
  clear H
  go_enter Try.func8, Try.ntmps8
  go_upto_region 1 with (fail)
  go_cut [28] (fun v28 wc => ∃ (kq : Nat) (x28_2 : Bool), v28 = .bool x28_2 ∧ Aside0 (batonlaw22_SeriesKept.j0 kq l0 l1 x28_2 = some r) ∧ Aside0 (kq ≤ k) ∧ Aside0 (Below w.heap.size w wc))
  case first =>
    have H := HC3.out
    clear HC3
    by_cases c4 : (l0.length : Int) > 500
    · rw [if_pos c4] at H
      have c4b0 : decide (500 < (l0.length : Int)) = true := decide_eq_true c4
      have c4b1 : decide (500 < l0.length) = true := decide_eq_true (by omega)
      clear c4
      (first | rw [c4b0] | (simp only [i64_w, i32_w]; rw [c4b0]) | skip)
      have H' := Aside0.mk H
      clear H
      go_wp2
      go_meet
      case rel => exact ⟨_, (true), (by first | rfl | (simp; done) | (simp [*]; done)), H', ⟨by first | omega | exact Nat.le_refl _⟩, ⟨by repeat (first | (with_reducible first | exact HB.out | apply below_alloc | apply pw_below_drewN | apply below_drew1) | exact HB.out)⟩⟩
    · rw [if_neg c4] at H
      have c4b0 : decide (500 < (l0.length : Int)) = false := decide_eq_false c4
      have c4b1 : decide (500 < l0.length) = false := decide_eq_false (by omega)
      clear c4
      (first | rw [c4b0] | (simp only [i64_w, i32_w]; rw [c4b0]) | skip)
      by_cases c5 : (l1.length : Int) > 500
      · rw [if_pos c5] at H
        have c5b0 : decide (500 < (l1.length : Int)) = true := decide_eq_true c5
        have c5b1 : decide (500 < l1.length) = true := decide_eq_true (by omega)
        clear c5
        have H' := Aside0.mk H
        clear H
        go_wp2
        go_meet
        case rel => exact ⟨_, (true), (by first | rfl | (simp; done) | (simp [*]; done)), H', ⟨by first | omega | exact Nat.le_refl _⟩, ⟨by repeat (first | (with_reducible first | exact HB.out | apply below_alloc | apply pw_below_drewN | apply below_drew1) | exact HB.out)⟩⟩
      · rw [if_neg c5] at H
        have c5b0 : decide (500 < (l1.length : Int)) = false := decide_eq_false c5
        have c5b1 : decide (500 < l1.length) = false := decide_eq_false (by omega)
        clear c5
        replace H := Option.bind_eq_some_iff.mp H
        obtain ⟨t221, A60, H⟩ := H
        replace H : (if t221 = true then ((batonlaw22_awake.f k).bind fun t222 => (batonlaw22_SeriesKept.j0 k l0 l1 (!t222))) else (batonlaw22_SeriesKept.j0 k l0 l1 true)) = some r := H
        have A6 := Aside0.mk A60
        clear A60
        by_cases c7 : t221 = true
        · subst c7
          have H1 : ((batonlaw22_awake.f k).bind fun t222 => (batonlaw22_SeriesKept.j0 k l0 l1 (!t222))) = some r := by rw [if_pos rfl] at H; exact H
          clear H
          have H := H1
          clear H1
          replace H := Option.bind_eq_some_iff.mp H
          obtain ⟨t222, A80, H⟩ := H
          replace H : (batonlaw22_SeriesKept.j0 k l0 l1 (!t222)) = some r := H
          have A8 := Aside0.mk A80
          clear A80
          have H' := Aside0.mk H
          clear H
          go_wp2_with (first | (go_at_call 16; (with_reducible refine (series_May.calls k _ _ l0 true _ ?side1 ?side2 A6.out).mono ?_); (case side1 => repeat (first | exact (Kd.C_below HR0.out HB.out) | (with_reducible refine Kd.C_alloc ?_ _) | (with_reducible refine Kd.C_drewN ?_ _) | (with_reducible refine Kd.C_drew ?_))); (case side2 => exact HC0.out); rintro e w9 ⟨rfl, hb⟩; have n0_ := Aside0.mk (below_step (by repeat (first | (with_reducible first | exact HB.out | apply below_alloc | apply pw_below_drewN | apply below_drew1) | exact HB.out)) hb); clear HB; have HB := n0_; clear n0_; (try clear hb); (try clear hb2); (try clear hk); (try clear hi)) | (go_at_call 9; (with_reducible refine (batonlaw22_awake.calls k  t222 _ A8.out).mono ?_); rintro e w10 ⟨rfl, hb⟩; have n0_ := Aside0.mk (below_step (by repeat (first | (with_reducible first | exact HB.out | apply below_alloc | apply pw_below_drewN | apply below_drew1) | exact HB.out)) hb); clear HB; have HB := n0_; clear n0_; (try clear hb); (try clear hb2); (try clear hk); (try clear hi)))
          go_meet
          case rel => exact ⟨_, (!t222), (by first | rfl | (simp; done) | (simp [*]; done)), H', ⟨by first | omega | exact Nat.le_refl _⟩, ⟨by repeat (first | (with_reducible first | exact HB.out | apply below_alloc | apply pw_below_drewN | apply below_drew1) | exact HB.out)⟩⟩
        · replace c7 := Bool.eq_false_iff.mpr c7
          subst c7
          have H1 : (batonlaw22_SeriesKept.j0 k l0 l1 true) = some r := by rw [if_neg (show ¬ (false = true) by decide)] at H; exact H
          clear H
          have H := H1
          clear H1
          have H' := Aside0.mk H
          clear H
          go_wp2_with (first | (go_at_call 16; (with_reducible refine (series_May.calls k _ _ l0 false _ ?side1 ?side2 A6.out).mono ?_); (case side1 => repeat (first | exact (Kd.C_below HR0.out HB.out) | (with_reducible refine Kd.C_alloc ?_ _) | (with_reducible refine Kd.C_drewN ?_ _) | (with_reducible refine Kd.C_drew ?_))); (case side2 => exact HC0.out); rintro e w11 ⟨rfl, hb⟩; have n0_ := Aside0.mk (below_step (by repeat (first | (with_reducible first | exact HB.out | apply below_alloc | apply pw_below_drewN | apply below_drew1) | exact HB.out)) hb); clear HB; have HB := n0_; clear n0_; (try clear hb); (try clear hb2); (try clear hk); (try clear hi)))
          go_meet
          case rel => exact ⟨_, (true), (by first | rfl | (simp; done) | (simp [*]; done)), H', ⟨by first | omega | exact Nat.le_refl _⟩, ⟨by repeat (first | (with_reducible first | exact HB.out | apply below_alloc | apply pw_below_drewN | apply below_drew1) | exact HB.out)⟩⟩
  case rest =>
    clear HC3
    try clear c1
    try clear p2
    try clear c4
    try clear c4b0
    try clear c4b1
    try clear c5
    try clear c5b0
    try clear c5b1
    try clear c7
    try clear c8
    obtain ⟨kq, x28_2, rfl, HA, HJ2, HB⟩ := hcut
    cases kq with
    | zero => exact absurd HA.out (by simp [batonlaw22_SeriesKept.j0])
    | succ kj2 =>
      have H := HA.out
      clear HA
      simp only [batonlaw22_SeriesKept.j0] at H
      by_cases c12 : x28_2 = true
      · subst c12
        have H1 : ((batonlaw22_awake.f kj2).bind fun t223 => (some t223)) = some r := by rw [if_pos rfl] at H; exact H
        clear H
        have H := H1
        clear H1
        replace H := Option.bind_eq_some_iff.mp H
        obtain ⟨t223, A130, H⟩ := H
        replace H : (some t223) = some r := H
        have A13 := Aside0.mk A130
        clear A130
        obtain rfl := Option.some.inj H
        go_wp2_with (first | ((with_reducible refine gate_callee (f := 9) rfl ?_); refine goesL_ (some 29) rfl rfl Try.func9 (by kernel_rfl) rfl #[] rfl (by (try simp only [List.map_toArray, List.map_cons, List.map_nil]); first | done | rfl | (simp only [List.length_drop, List.length_take]; rfl)) ?_; (with_reducible refine (batonlaw22_awake.calls kj2  t223 _ A13.out).mono ?_); rintro e w14 ⟨rfl, hb⟩; refine ⟨_, rfl, ?_⟩; have n0_ := Aside0.mk (below_step (by repeat (first | (with_reducible first | exact HB.out | apply below_alloc | apply pw_below_drewN | apply below_drew1) | exact HB.out)) hb); clear HB; have HB := n0_; clear n0_; (try clear hb); (try clear hb2); (try clear hk); (try clear hi)))
        go_ret
        exact ⟨by first | rfl | (simp [errW_none, errW_some] <;> rfl) | (simp [*, errW_none, errW_some] <;> rfl), by repeat (first | (with_reducible first | exact HB.out | apply below_alloc | apply pw_below_drewN | apply below_drew1) | exact HB.out)⟩
      · replace c12 := Bool.eq_false_iff.mpr c12
        subst c12
        have H1 : ((series_Put.f kj2 l0 l1).bind fun bt224 => (if bt224.2.2 = 0 then (if (bt224.2.1.length : Int) = (l1.length : Int) then (if (bt224.1.length : Int) < (l0.length : Int) then (batonlaw22_SeriesKept.j1 kj2 l0 l1 bt224.1 bt224.2.1 true) else (if 0 ≤ (l0.length : Int) then (if (l0.length : Int) ≤ (bt224.1.length : Int) then ((batonref22_Same.f kj2 (bt224.1.take ((l0.length : Int) : Int).toNat) l0).bind fun t235 => (if t235 = true then ((series_May.f kj2 bt224.1).bind fun t236 => (batonlaw22_SeriesKept.j1 kj2 l0 l1 bt224.1 bt224.2.1 (!t236))) else (batonlaw22_SeriesKept.j1 kj2 l0 l1 bt224.1 bt224.2.1 true))) else (none)) else (none))) else (batonlaw22_SeriesKept.j1 kj2 l0 l1 bt224.1 bt224.2.1 true)) else (batonlaw22_SeriesKept.j1 kj2 l0 l1 bt224.1 bt224.2.1 true))) = some r := by rw [if_neg (show ¬ (false = true) by decide)] at H; exact H
        clear H
        have H := H1
        clear H1
        replace H := Option.bind_eq_some_iff.mp H
        obtain ⟨⟨t224, t225, t226⟩, A150, H⟩ := H
        replace H : (if t226 = 0 then (if (t225.length : Int) = (l1.length : Int) then (if (t224.length : Int) < (l0.length : Int) then (batonlaw22_SeriesKept.j1 kj2 l0 l1 t224 t225 true) else (if 0 ≤ (l0.length : Int) then (if (l0.length : Int) ≤ (t224.length : Int) then ((batonref22_Same.f kj2 (t224.take ((l0.length : Int) : Int).toNat) l0).bind fun t235 => (if t235 = true then ((series_May.f kj2 t224).bind fun t236 => (batonlaw22_SeriesKept.j1 kj2 l0 l1 t224 t225 (!t236))) else (batonlaw22_SeriesKept.j1 kj2 l0 l1 t224 t225 true))) else (none)) else (none))) else (batonlaw22_SeriesKept.j1 kj2 l0 l1 t224 t225 true)) else (batonlaw22_SeriesKept.j1 kj2 l0 l1 t224 t225 true)) = some r := H
        have A15 := Aside0.mk A150
        clear A150
        have HC16 := Aside0.mk H
        clear H
        go_upto_region 4 with (first | ((with_reducible refine gate_callee (f := 11) rfl ?_); refine goesL_ (some 33) rfl rfl Try.func11 (by kernel_rfl) rfl #[.slice A0 l0.length c0, .slice A1 l1.length c1] rfl (by (try simp only [List.map_toArray, List.map_cons, List.map_nil]); first | done | rfl | (simp only [List.length_drop, List.length_take]; rfl)) ?_; (with_reducible refine (series_Put.calls kj2 _ _ l0 _ _ l1 t224 t225 t226 _ ?side1 ?side2 ?side3 ?side4 A15.out).mono ?_); (case side1 => repeat (first | exact (Kd.C_below HR0.out HB.out) | (with_reducible refine Kd.C_alloc ?_ _) | (with_reducible refine Kd.C_drewN ?_ _) | (with_reducible refine Kd.C_drew ?_))); (case side2 => exact HC0.out); (case side3 => repeat (first | exact (Kd.C_below HR1.out HB.out) | (with_reducible refine Kd.C_alloc ?_ _) | (with_reducible refine Kd.C_drewN ?_ _) | (with_reducible refine Kd.C_drew ?_))); (case side4 => exact HC1.out); rintro e w17 ⟨v227, v229, rfl, ho0, ho1, hb⟩; refine ⟨_, rfl, ?_⟩; have n0_ := Aside0.mk (Kd.R_lower ho0 (below_size (by repeat (first | (with_reducible first | exact HB.out | apply below_alloc | apply pw_below_drewN | apply below_drew1) | exact HB.out)))); have n1_ := Aside0.mk (Kd.R_lower ho1 (below_size (by repeat (first | (with_reducible first | exact HB.out | apply below_alloc | apply pw_below_drewN | apply below_drew1) | exact HB.out)))); have n2_ := Aside0.mk (below_step (by repeat (first | (with_reducible first | exact HB.out | apply below_alloc | apply pw_below_drewN | apply below_drew1) | exact HB.out)) hb); clear HB; have HO228 := n0_; have HO230 := n1_; have HB := n2_; clear n0_ n1_ n2_; (try clear hb); (try clear hb2); (try clear hk); (try clear hi); (try clear ho0); (try clear ho1)))
        (try simp only [Act.put, List.setIfInBounds_toArray, List.set_cons_zero, List.set_cons_succ])
        go_cut [66] (fun v66 wc => ∃ (kq : Nat) (x66_15 : Bool), v66 = .bool x66_15 ∧ Aside0 (batonlaw22_SeriesKept.j1 kq l0 l1 t224 t225 x66_15 = some r) ∧ Aside0 (kq ≤ kj2) ∧ Aside0 (Kd.R k25 25 wc w.heap.size (fun _ => True) v227 t224) ∧ Aside0 (Kd.R (Kd.int .u8) 36 wc w.heap.size (fun _ => True) v229 t225) ∧ Aside0 (Below w.heap.size w wc))
        case first =>
          have H := HC16.out
          clear HC16
          by_cases c18 : t226 = 0
          · rw [if_pos c18] at H
            have c18b0 : (t226 == 0) = true := beq_iff_eq.mpr c18
            have c18b1 : (t226 != 0) = false := bne_eq_false_iff_eq.mpr c18
            clear c18
            (first | rw [c18b0] | (simp only [i64_w, i32_w]; rw [c18b0]) | skip)
            by_cases c19 : (t225.length : Int) = (l1.length : Int)
            · rw [if_pos c19] at H
              have c19b0 : ((t225.length : Int) == (l1.length : Int)) = true := beq_iff_eq.mpr c19
              have c19b1 : ((t225.length : Int) != (l1.length : Int)) = false := bne_eq_false_iff_eq.mpr c19
              have c19b2 : (t225.length == l1.length) = true := by first | simpa using c19 | (simp at c19 ⊢; omega)
              clear c19
              by_cases c20 : (t224.length : Int) < (l0.length : Int)
              · rw [if_pos c20] at H
                have c20b0 : decide ((t224.length : Int) < (l0.length : Int)) = true := decide_eq_true c20
                have c20b1 : decide (t224.length < l0.length) = true := decide_eq_true (Int.ofNat_lt.mp c20)
                clear c20
                have H' := Aside0.mk H
                clear H
                obtain ⟨Ao21, co21, eo21⟩ := Kd.R_slice HO230.out
                subst eo21
                obtain ⟨Ao22, co22, eo22⟩ := Kd.R_slice HO228.out
                subst eo22
                go_wp2
                go_meet
                case rel => exact ⟨_, (true), (by first | rfl | (simp; done) | (simp [*]; done)), H', ⟨by have := HJ2.out; first | omega | exact Nat.le_refl _⟩, ⟨by (with_reducible repeat (first | apply Kd.R_alloc | apply Kd.R_drewN | apply Kd.R_drew)); exact HO228.out⟩, ⟨by (with_reducible repeat (first | apply Kd.R_alloc | apply Kd.R_drewN | apply Kd.R_drew)); exact HO230.out⟩, ⟨by repeat (first | (with_reducible first | exact HB.out | apply below_alloc | apply pw_below_drewN | apply below_drew1) | exact HB.out)⟩⟩
              · rw [if_neg c20] at H
                have c20b0 : decide ((t224.length : Int) < (l0.length : Int)) = false := decide_eq_false c20
                have c20b1 : decide (t224.length < l0.length) = false := decide_eq_false (fun h => c20 (Int.ofNat_lt.mpr h))
                clear c20
                by_cases c23 : 0 ≤ (l0.length : Int)
                · rw [if_pos c23] at H
                  have c23b0 := eq_true c23
                  have c23b1 : decide (0 ≤ (l0.length : Int)) = true := decide_eq_true c23
                  clear c23
                  by_cases c24 : (l0.length : Int) ≤ (t224.length : Int)
                  · rw [if_pos c24] at H
                    have c24b0 := eq_true c24
                    have c24b1 : decide ((l0.length : Int) ≤ (t224.length : Int)) = true := decide_eq_true c24
                    clear c24
                    obtain ⟨y231, hy231⟩ : ∃ y_ : List (S25), y_ = (t224.take ((l0.length : Int) : Int).toNat) := ⟨_, rfl⟩
                    replace H : ((batonref22_Same.f kj2 y231 l0).bind fun t235 => (if t235 = true then ((series_May.f kj2 t224).bind fun t236 => (batonlaw22_SeriesKept.j1 kj2 l0 l1 t224 t225 (!t236))) else (batonlaw22_SeriesKept.j1 kj2 l0 l1 t224 t225 true))) = some r := by first | (rw [hy231]; with_reducible exact H) | (have H2_ := (Option.bind_some _ _).symm.trans H; rw [hy231]; with_reducible exact H2_) | (have H2_ := (Option.bind_some _ _).symm.trans H; with_reducible exact H2_) | with_reducible exact H | (rw [hy231]; exact H) | exact H
                    have Ny231 := Aside0.mk hy231
                    clear hy231
                    replace H := Option.bind_eq_some_iff.mp H
                    obtain ⟨t235, A250, H⟩ := H
                    replace H : (if t235 = true then ((series_May.f kj2 t224).bind fun t236 => (batonlaw22_SeriesKept.j1 kj2 l0 l1 t224 t225 (!t236))) else (batonlaw22_SeriesKept.j1 kj2 l0 l1 t224 t225 true)) = some r := H
                    have A25 := Aside0.mk A250
                    clear A250
                    by_cases c26 : t235 = true
                    · subst c26
                      have H1 : ((series_May.f kj2 t224).bind fun t236 => (batonlaw22_SeriesKept.j1 kj2 l0 l1 t224 t225 (!t236))) = some r := by rw [if_pos rfl] at H; exact H
                      clear H
                      have H := H1
                      clear H1
                      replace H := Option.bind_eq_some_iff.mp H
                      obtain ⟨t236, A270, H⟩ := H
                      replace H : (batonlaw22_SeriesKept.j1 kj2 l0 l1 t224 t225 (!t236)) = some r := H
                      have A27 := Aside0.mk A270
                      clear A270
                      have H' := Aside0.mk H
                      clear H
                      obtain ⟨Ao28, co28, eo28⟩ := Kd.R_slice HO230.out
                      subst eo28
                      obtain ⟨Ao29, co29, eo29⟩ := Kd.R_slice HO228.out
                      subst eo29
                      have q30 : ((l0.length : Int) : Int) ≤ ((t224.length : Int) : Int) := of_decide_eq_true (by first | (with_reducible assumption) | assumption)
                      obtain ⟨i030, hi030, _, hsz30, _⟩ := info_parts info25
                      have hroom30 : t224.length ≤ co29 := (Kd.R_reads' HO228.out).2.1
                      have hC30 : Kd.C k25 _ Ao29 t224.length t224 := (Kd.R_reads' HO228.out).2.2
                      have hcut30 := cut_to (P := Try.prog) 22 25 .i64 Try.underlying22 hi030 Ao29 t224.length co29 (l0.length : Int) (of_decide_eq_true (by first | (with_reducible assumption) | assumption)) q30 hroom30
                      have hr30 := Kd.C_take (m := ((l0.length : Int) : Int).toNat) hC30 (by omega)
                      have hy30 : y231.length = ((l0.length : Int) : Int).toNat := (by rw [Ny231.out, List.length_take]; omega)
                      rw [← Ny231.out] at hr30
                      rw [← hy30] at hcut30
                      have HR234 := Aside0.mk hr30
                      have HC234 := Aside0.mk (show y231.length ≤ co29 from by omega)
                      clear hr30 hC30 hroom30 hi030 hsz30
                      have KY30 := Aside0.mk hy30
                      clear hy30
                      have KL30 := Aside0.mk (show ((l0.length : Int) : Int).toNat ≤ t224.length from by omega)
                      replace q30 := eq_true q30
                      go_wp2_with (first | (go_at_call 12; (with_reducible refine (batonref22_Same.calls kj2 _ _ y231 _ _ l0 true _ ?side1 ?side2 ?side3 ?side4 A25.out).mono ?_); (case side1 => repeat (first | exact (by repeat (first | (with_reducible exact HR234.out) | (with_reducible refine Kd.C_alloc ?_ _) | (with_reducible refine Kd.C_drewN ?_ _) | (with_reducible refine Kd.C_drew ?_) | exact HR234.out)) | (with_reducible refine Kd.C_alloc ?_ _) | (with_reducible refine Kd.C_drewN ?_ _) | (with_reducible refine Kd.C_drew ?_))); (case side2 => exact HC234.out); (case side3 => repeat (first | exact (Kd.C_below HR0.out HB.out) | (with_reducible refine Kd.C_alloc ?_ _) | (with_reducible refine Kd.C_drewN ?_ _) | (with_reducible refine Kd.C_drew ?_))); (case side4 => exact HC0.out); rintro e w' ⟨rfl, ⟨nd, rfl⟩⟩) | (go_at_call 16; (with_reducible refine (series_May.calls kj2 _ _ t224 t236 _ ?side1 ?side2 A27.out).mono ?_); (case side1 => repeat (first | exact (Kd.R_reads' HO228.out).2.2 | (with_reducible refine Kd.C_alloc ?_ _) | (with_reducible refine Kd.C_drewN ?_ _) | (with_reducible refine Kd.C_drew ?_))); (case side2 => exact (Kd.R_reads' HO228.out).2.1); rintro e w31 ⟨rfl, hb⟩; have n0_ := Aside0.mk (Kd.R_below (by (with_reducible repeat (first | apply Kd.R_alloc | apply Kd.R_drewN | apply Kd.R_drew)); exact HO228.out) hb); have n1_ := Aside0.mk (Kd.R_below (by (with_reducible repeat (first | apply Kd.R_alloc | apply Kd.R_drewN | apply Kd.R_drew)); exact HO230.out) hb); have n2_ := Aside0.mk (Kd.C_below (by repeat (first | (with_reducible exact HR234.out) | (with_reducible refine Kd.C_alloc ?_ _) | (with_reducible refine Kd.C_drewN ?_ _) | (with_reducible refine Kd.C_drew ?_) | exact HR234.out)) hb); have n3_ := Aside0.mk (below_step (by repeat (first | (with_reducible first | exact HB.out | apply below_alloc | apply pw_below_drewN | apply below_drew1) | exact HB.out)) hb); clear HO228; clear HO230; clear HR234; clear HB; have HO228 := n0_; have HO230 := n1_; have HR234 := n2_; have HB := n3_; clear n0_ n1_ n2_ n3_; (try clear hb); (try clear hb2); (try clear hk); (try clear hi)))
                      go_meet
                      case rel => exact ⟨_, (!t236), (by first | rfl | (simp; done) | (simp [*]; done)), H', ⟨by have := HJ2.out; first | omega | exact Nat.le_refl _⟩, ⟨by (with_reducible repeat (first | apply Kd.R_alloc | apply Kd.R_drewN | apply Kd.R_drew)); exact HO228.out⟩, ⟨by (with_reducible repeat (first | apply Kd.R_alloc | apply Kd.R_drewN | apply Kd.R_drew)); exact HO230.out⟩, ⟨by repeat (first | (with_reducible first | exact HB.out | apply below_alloc | apply pw_below_drewN | apply below_drew1) | exact HB.out)⟩⟩
                    · replace c26 := Bool.eq_false_iff.mpr c26
                      subst c26
                      have H1 : (batonlaw22_SeriesKept.j1 kj2 l0 l1 t224 t225 true) = some r := by rw [if_neg (show ¬ (false = true) by decide)] at H; exact H
                      clear H
                      have H := H1
                      clear H1
                      have H' := Aside0.mk H
                      clear H
                      obtain ⟨Ao32, co32, eo32⟩ := Kd.R_slice HO230.out
                      subst eo32
                      obtain ⟨Ao33, co33, eo33⟩ := Kd.R_slice HO228.out
                      subst eo33
                      have q34 : ((l0.length : Int) : Int) ≤ ((t224.length : Int) : Int) := of_decide_eq_true (by first | (with_reducible assumption) | assumption)
                      obtain ⟨i034, hi034, _, hsz34, _⟩ := info_parts info25
                      have hroom34 : t224.length ≤ co33 := (Kd.R_reads' HO228.out).2.1
                      have hC34 : Kd.C k25 _ Ao33 t224.length t224 := (Kd.R_reads' HO228.out).2.2
                      have hcut34 := cut_to (P := Try.prog) 22 25 .i64 Try.underlying22 hi034 Ao33 t224.length co33 (l0.length : Int) (of_decide_eq_true (by first | (with_reducible assumption) | assumption)) q34 hroom34
                      have hr34 := Kd.C_take (m := ((l0.length : Int) : Int).toNat) hC34 (by omega)
                      have hy34 : y231.length = ((l0.length : Int) : Int).toNat := (by rw [Ny231.out, List.length_take]; omega)
                      rw [← Ny231.out] at hr34
                      rw [← hy34] at hcut34
                      have HR234 := Aside0.mk hr34
                      have HC234 := Aside0.mk (show y231.length ≤ co33 from by omega)
                      clear hr34 hC34 hroom34 hi034 hsz34
                      have KY34 := Aside0.mk hy34
                      clear hy34
                      have KL34 := Aside0.mk (show ((l0.length : Int) : Int).toNat ≤ t224.length from by omega)
                      replace q34 := eq_true q34
                      go_wp2_with (first | (go_at_call 12; (with_reducible refine (batonref22_Same.calls kj2 _ _ y231 _ _ l0 false _ ?side1 ?side2 ?side3 ?side4 A25.out).mono ?_); (case side1 => repeat (first | exact (by repeat (first | (with_reducible exact HR234.out) | (with_reducible refine Kd.C_alloc ?_ _) | (with_reducible refine Kd.C_drewN ?_ _) | (with_reducible refine Kd.C_drew ?_) | exact HR234.out)) | (with_reducible refine Kd.C_alloc ?_ _) | (with_reducible refine Kd.C_drewN ?_ _) | (with_reducible refine Kd.C_drew ?_))); (case side2 => exact HC234.out); (case side3 => repeat (first | exact (Kd.C_below HR0.out HB.out) | (with_reducible refine Kd.C_alloc ?_ _) | (with_reducible refine Kd.C_drewN ?_ _) | (with_reducible refine Kd.C_drew ?_))); (case side4 => exact HC0.out); rintro e w' ⟨rfl, ⟨nd, rfl⟩⟩))
                      go_meet
                      case rel => exact ⟨_, (true), (by first | rfl | (simp; done) | (simp [*]; done)), H', ⟨by have := HJ2.out; first | omega | exact Nat.le_refl _⟩, ⟨by (with_reducible repeat (first | apply Kd.R_alloc | apply Kd.R_drewN | apply Kd.R_drew)); exact HO228.out⟩, ⟨by (with_reducible repeat (first | apply Kd.R_alloc | apply Kd.R_drewN | apply Kd.R_drew)); exact HO230.out⟩, ⟨by repeat (first | (with_reducible first | exact HB.out | apply below_alloc | apply pw_below_drewN | apply below_drew1) | exact HB.out)⟩⟩
                  · rw [if_neg c24] at H
                    exact absurd H (by simp)
                · rw [if_neg c23] at H
                  exact absurd H (by simp)
            · rw [if_neg c19] at H
              have c19b0 : ((t225.length : Int) == (l1.length : Int)) = false := beq_eq_false_iff_ne.mpr c19
              have c19b1 : ((t225.length : Int) != (l1.length : Int)) = true := bne_iff_ne.mpr c19
              have c19b2 : (t225.length == l1.length) = false := by first | simpa using c19 | (simp at c19 ⊢; omega)
              have H' := Aside0.mk H
              clear H
              obtain ⟨Ao35, co35, eo35⟩ := Kd.R_slice HO230.out
              subst eo35
              go_wp2
              go_meet
              case rel => exact ⟨_, (true), (by first | rfl | (simp; done) | (simp [*]; done)), H', ⟨by have := HJ2.out; first | omega | exact Nat.le_refl _⟩, ⟨by (with_reducible repeat (first | apply Kd.R_alloc | apply Kd.R_drewN | apply Kd.R_drew)); exact HO228.out⟩, ⟨by (with_reducible repeat (first | apply Kd.R_alloc | apply Kd.R_drewN | apply Kd.R_drew)); exact HO230.out⟩, ⟨by repeat (first | (with_reducible first | exact HB.out | apply below_alloc | apply pw_below_drewN | apply below_drew1) | exact HB.out)⟩⟩
          · rw [if_neg c18] at H
            have c18b0 : (t226 == 0) = false := beq_eq_false_iff_ne.mpr c18
            have c18b1 : (t226 != 0) = true := bne_iff_ne.mpr c18
            (first | rw [c18b0] | (simp only [i64_w, i32_w]; rw [c18b0]) | skip)
            have H' := Aside0.mk H
            clear H
            go_wp2
            go_meet
            case rel => exact ⟨_, (true), (by first | rfl | (simp; done) | (simp [*]; done)), H', ⟨by have := HJ2.out; first | omega | exact Nat.le_refl _⟩, ⟨by (with_reducible repeat (first | apply Kd.R_alloc | apply Kd.R_drewN | apply Kd.R_drew)); exact HO228.out⟩, ⟨by (with_reducible repeat (first | apply Kd.R_alloc | apply Kd.R_drewN | apply Kd.R_drew)); exact HO230.out⟩, ⟨by repeat (first | (with_reducible first | exact HB.out | apply below_alloc | apply pw_below_drewN | apply below_drew1) | exact HB.out)⟩⟩
        case rest =>
          clear HC16
          try clear c1
          try clear c2
          try clear p2
          try clear q3
          try clear c4
          try clear c4b0
          try clear c4b1
          try clear c5
          try clear c5b0
          try clear c5b1
          try clear c7
          try clear c8
          try clear c9
          try clear c11
          try clear c12
          try clear c18
          try clear c18b0
          try clear c18b1
          try clear c19
          try clear c19b0
          try clear c19b1
          try clear c19b2
          try clear c20
          try clear c20b0
          try clear c20b1
          try clear c23
          try clear c23b0
          try clear c23b1
          try clear c24
          try clear c24b0
          try clear c24b1
          try clear c26
          try clear q30
          try clear q34
          try clear p2
          try clear q30
          try clear q34
          obtain ⟨kq, x66_15, rfl, HA, HJ15, HO_5, HO_6, HB⟩ := hcut
          cases kq with
          | zero => exact absurd HA.out (by simp [batonlaw22_SeriesKept.j1])
          | succ kj15 =>
            have H := HA.out
            clear HA
            simp only [batonlaw22_SeriesKept.j1] at H
            by_cases c36 : x66_15 = true
            · subst c36
              have H1 : (none) = some r := by rw [if_pos rfl] at H; exact H
              clear H
              have H := H1
              clear H1
              exact absurd H (by simp)
            · replace c36 := Bool.eq_false_iff.mpr c36
              subst c36
              have H1 : (batonlaw22_SeriesKept.l0 kj15 l0 l1 t224 t225 ([] : List (S25)) 0) = some r := by rw [if_neg (show ¬ (false = true) by decide)] at H; exact H
              clear H
              have H := H1
              clear H1
              have H' := Aside0.mk H
              clear H
              go_wp2
              go_loopg [8, 9] kj15 (fun kq v8 v9 w' => ∃ (x8_3 : List (S25)) (x9_3 : Int), v9 = .int .i64 x9_3 ∧ Aside0 (batonlaw22_SeriesKept.l0 kq l0 l1 t224 t225 x8_3 x9_3 = some r) ∧ Aside0 (kq ≤ kj15) ∧ Aside0 (Kd.R k25 25 w' w.heap.size (fun k_ => some k_ ≠ (v8 : Value).ownBlock) v227 t224) ∧ Aside0 (Kd.R (Kd.int .u8) 36 w' w.heap.size (fun _ => True) v229 t225) ∧ Aside0 (Kd.R k25 25 w' w.heap.size (fun k_ => some k_ ≠ (v227 : Value).ownBlock) v8 x8_3) ∧ Aside0 (Below w.heap.size w w'))
              case atStart => exact ⟨(([] : List (S25))), (0), (by first | rfl | (simp; done) | (simp [*]; done)), H', ⟨Nat.le_refl _⟩, ⟨by (with_reducible repeat (first | apply Kd.R_alloc | apply Kd.R_drewN | apply Kd.R_drew)); exact Kd.R_mono HO_5.out (fun _ hk => (by simp [Value.ownBlock]))⟩, ⟨by (with_reducible repeat (first | apply Kd.R_alloc | apply Kd.R_drewN | apply Kd.R_drew)); exact HO_6.out⟩, ⟨by first | exact Kd.R_nil _ _ _ _ _ | exact Kd.N_nil _ _ _ _ _ | exact Kd.V_nil _ _ _ _ _ | exact Kd.Q_nil _ _ _ _ _ | exact Kd.S_nil _ _ _ _ _⟩, ⟨by repeat (first | (with_reducible first | exact HB.out | apply below_alloc | apply pw_below_drewN | apply below_drew1) | exact HB.out)⟩⟩
              case round =>
                clear H'
                try clear c1
                try clear c2
                try clear p2
                try clear c3
                try clear q3
                try clear c4
                try clear c4b0
                try clear c4b1
                try clear c5
                try clear c5b0
                try clear c5b1
                try clear c7
                try clear c8
                try clear c9
                try clear c11
                try clear c12
                try clear c18
                try clear c18b0
                try clear c18b1
                try clear c19
                try clear c19b0
                try clear c19b1
                try clear c19b2
                try clear c20
                try clear c20b0
                try clear c20b1
                try clear c23
                try clear c23b0
                try clear c23b1
                try clear c24
                try clear c24b0
                try clear c24b1
                try clear c26
                try clear q30
                try clear q34
                try clear c36
                try clear p2
                try clear q3
                try clear q30
                try clear q34
                obtain ⟨x8_3, x9_3, rfl, HA, HK3, HO_5, HO_6, HO_8, HB⟩ := hrel
                cases gk with
                | zero => exact absurd HA.out (by simp [batonlaw22_SeriesKept.l0])
                | succ k3 =>
                  have H := HA.out
                  clear HA
                  simp only [batonlaw22_SeriesKept.l0] at H
                  by_cases c37 : x9_3 < (t225.length : Int)
                  · rw [if_pos c37] at H
                    have c37b0 : decide (x9_3 < (t225.length : Int)) = true := decide_eq_true c37
                    clear c37
                    have HC38 := Aside0.mk H
                    clear H
                    obtain ⟨Ao39, co39, eo39⟩ := Kd.R_slice HO_6.out
                    subst eo39
                    go_upto_region 10 with (fail)
                    go_cut [84] (fun v84 wc => ∃ (kq : Nat) (x84_37 : Bool), v84 = .bool x84_37 ∧ Aside0 (batonlaw22_SeriesKept.j3 kq l0 l1 t224 t225 x8_3 x9_3 x84_37 = some r) ∧ Aside0 (kq ≤ k3) ∧ Aside0 (Kd.R k25 25 wc w.heap.size (fun k_ => some k_ ≠ (u8 : Value).ownBlock) v227 t224) ∧ Aside0 (Kd.R (Kd.int .u8) 36 wc w.heap.size (fun _ => True) (.slice Ao39 t225.length co39) t225) ∧ Aside0 (Kd.R k25 25 wc w.heap.size (fun k_ => some k_ ≠ (v227 : Value).ownBlock) u8 x8_3) ∧ Aside0 (Below w.heap.size w wc))
                    case first =>
                      have H := HC38.out
                      clear HC38
                      by_cases c40 : 0 ≤ x9_3
                      · rw [if_pos c40] at H
                        have c40b0 : decide (0 ≤ x9_3) = true := decide_eq_true c40
                        clear c40
                        (first | rw [c40b0] | (simp only [i64_w, i32_w]; rw [c40b0]) | skip)
                        by_cases c41 : (rd t225 x9_3) < 1
                        · rw [if_pos c41] at H
                          have c41b0 : decide ((rd t225 x9_3) < 1) = true := decide_eq_true c41
                          clear c41
                          have H' := Aside0.mk H
                          clear H
                          have p237 : 0 ≤ (x9_3 : Int) := of_decide_eq_true (by first | (with_reducible assumption) | assumption)
                          have q237 : x9_3 < (t225.length : Int) := of_decide_eq_true (by first | (with_reducible assumption) | assumption)
                          obtain ⟨ad237, e237, hx237_0⟩ := Kd.at_int (Kd.R_reads' HO_6.out).2.2 x9_3 p237 q237
                          cases e237
                          replace p237 := eq_true p237
                          replace q237 := eq_true q237
                          go_wp2
                          go_meet
                          case rel => exact ⟨_, (true), (by first | rfl | (simp; done) | (simp [*]; done)), H', ⟨by have := HJ2.out; have := HJ15.out; have := HK3.out; first | omega | exact Nat.le_refl _⟩, ⟨by (with_reducible repeat (first | apply Kd.R_alloc | apply Kd.R_drewN | apply Kd.R_drew)); exact HO_5.out⟩, ⟨by (with_reducible repeat (first | apply Kd.R_alloc | apply Kd.R_drewN | apply Kd.R_drew)); exact HO_6.out⟩, ⟨by (with_reducible repeat (first | apply Kd.R_alloc | apply Kd.R_drewN | apply Kd.R_drew)); exact HO_8.out⟩, ⟨by repeat (first | (with_reducible first | exact HB.out | apply below_alloc | apply pw_below_drewN | apply below_drew1) | exact HB.out)⟩⟩
                        · rw [if_neg c41] at H
                          have c41b0 : decide ((rd t225 x9_3) < 1) = false := decide_eq_false c41
                          clear c41
                          have H' := Aside0.mk H
                          clear H
                          have p237 : 0 ≤ (x9_3 : Int) := of_decide_eq_true (by first | (with_reducible assumption) | assumption)
                          have q237 : x9_3 < (t225.length : Int) := of_decide_eq_true (by first | (with_reducible assumption) | assumption)
                          obtain ⟨ad237, e237, hx237_0⟩ := Kd.at_int (Kd.R_reads' HO_6.out).2.2 x9_3 p237 q237
                          cases e237
                          replace p237 := eq_true p237
                          replace q237 := eq_true q237
                          have p238 : 0 ≤ (x9_3 : Int) := of_decide_eq_true (by first | (with_reducible assumption) | assumption)
                          have q238 : x9_3 < (t225.length : Int) := of_decide_eq_true (by first | (with_reducible assumption) | assumption)
                          obtain ⟨ad238, e238, hx238_0⟩ := Kd.at_int (Kd.R_reads' HO_6.out).2.2 x9_3 p238 q238
                          obtain rfl : ad237 = ad238 := (by injection e238)
                          replace p238 := eq_true p238
                          replace q238 := eq_true q238
                          go_wp2
                          go_meet
                          case rel => exact ⟨_, (decide ((rd t225 x9_3) > 4)), (by first | rfl | (simp; done) | (simp [*]; done)), H', ⟨by have := HJ2.out; have := HJ15.out; have := HK3.out; first | omega | exact Nat.le_refl _⟩, ⟨by (with_reducible repeat (first | apply Kd.R_alloc | apply Kd.R_drewN | apply Kd.R_drew)); exact HO_5.out⟩, ⟨by (with_reducible repeat (first | apply Kd.R_alloc | apply Kd.R_drewN | apply Kd.R_drew)); exact HO_6.out⟩, ⟨by (with_reducible repeat (first | apply Kd.R_alloc | apply Kd.R_drewN | apply Kd.R_drew)); exact HO_8.out⟩, ⟨by repeat (first | (with_reducible first | exact HB.out | apply below_alloc | apply pw_below_drewN | apply below_drew1) | exact HB.out)⟩⟩
                      · rw [if_neg c40] at H
                        exact absurd H (by simp)
                    case rest =>
                      clear HC38
                      try clear c1
                      try clear c2
                      try clear p2
                      try clear q2
                      try clear hx2
                      try clear c3
                      try clear q3
                      try clear c4
                      try clear c4b0
                      try clear c4b1
                      try clear c5
                      try clear c5b0
                      try clear c5b1
                      try clear c7
                      try clear c8
                      try clear c9
                      try clear c11
                      try clear c12
                      try clear c18
                      try clear c18b0
                      try clear c18b1
                      try clear c19
                      try clear c19b0
                      try clear c19b1
                      try clear c19b2
                      try clear c20
                      try clear c20b0
                      try clear c20b1
                      try clear c23
                      try clear c23b0
                      try clear c23b1
                      try clear p23
                      try clear q23
                      try clear hx23
                      try clear c24
                      try clear c24b0
                      try clear c24b1
                      try clear c26
                      try clear q30
                      try clear q34
                      try clear c36
                      try clear c37
                      try clear c37b0
                      try clear c40
                      try clear c40b0
                      try clear c41
                      try clear c41b0
                      try clear hx237_0
                      try clear hx238_0
                      try clear p2
                      try clear p237
                      try clear p238
                      try clear q237
                      try clear q238
                      try clear q3
                      try clear q30
                      try clear q34
                      obtain ⟨kq, x84_37, rfl, HA, HJ37, HO_5, HO_6, HO_8, HB⟩ := hcut
                      cases kq with
                      | zero => exact absurd HA.out (by simp [batonlaw22_SeriesKept.j3])
                      | succ kj37 =>
                        have H := HA.out
                        clear HA
                        simp only [batonlaw22_SeriesKept.j3] at H
                        by_cases c42 : x84_37 = true
                        · subst c42
                          have H1 : (none) = some r := by rw [if_pos rfl] at H; exact H
                          clear H
                          have H := H1
                          clear H1
                          exact absurd H (by simp)
                        · replace c42 := Bool.eq_false_iff.mpr c42
                          subst c42
                          have H1 : (if 0 ≤ x9_3 then (if x9_3 < (t225.length : Int) then (if (rd t225 x9_3) = 1 then (if x9_3 < (l1.length : Int) then (if x8_3.length < 8796093022208 then (batonlaw22_SeriesKept.l0 kj37 l0 l1 t224 t225 (x8_3 ++ [(⟨(rd_T25 l1 x9_3).f0, (rd_T25 l1 x9_3).f1⟩ : S25)]) (wrap64 (x9_3 + 1))) else (none)) else (none)) else (batonlaw22_SeriesKept.l0 kj37 l0 l1 t224 t225 x8_3 (wrap64 (x9_3 + 1)))) else (none)) else (none)) = some r := by rw [if_neg (show ¬ (false = true) by decide)] at H; exact H
                          clear H
                          have H := H1
                          clear H1
                          by_cases c43 : 0 ≤ x9_3
                          · rw [if_pos c43] at H
                            have c43b0 : decide (0 ≤ x9_3) = true := decide_eq_true c43
                            clear c43
                            by_cases c44 : x9_3 < (t225.length : Int)
                            · rw [if_pos c44] at H
                              have c44b0 : decide (x9_3 < (t225.length : Int)) = true := decide_eq_true c44
                              clear c44
                              by_cases c45 : (rd t225 x9_3) = 1
                              · rw [if_pos c45] at H
                                have c45b0 : ((rd t225 x9_3) == 1) = true := beq_iff_eq.mpr c45
                                have c45b1 : ((rd t225 x9_3) != 1) = false := bne_eq_false_iff_eq.mpr c45
                                clear c45
                                by_cases c46 : x9_3 < (l1.length : Int)
                                · rw [if_pos c46] at H
                                  have c46b0 : decide (x9_3 < (l1.length : Int)) = true := decide_eq_true c46
                                  clear c46
                                  by_cases c47 : x8_3.length < 8796093022208
                                  · rw [if_pos c47] at H
                                    have LMc47 := Aside0.mk c47
                                    clear c47
                                    obtain ⟨y241, hy241⟩ : ∃ y_ : List (S25), y_ = (x8_3 ++ [(⟨(rd_T25 l1 x9_3).f0, (rd_T25 l1 x9_3).f1⟩ : S25)]) := ⟨_, rfl⟩
                                    replace H : (batonlaw22_SeriesKept.l0 kj37 l0 l1 t224 t225 y241 (wrap64 (x9_3 + 1))) = some r := by first | (rw [hy241]; with_reducible exact H) | (have H2_ := (Option.bind_some _ _).symm.trans H; rw [hy241]; with_reducible exact H2_) | (have H2_ := (Option.bind_some _ _).symm.trans H; with_reducible exact H2_) | with_reducible exact H | (rw [hy241]; exact H) | exact H
                                    have Ny241 := Aside0.mk hy241
                                    clear hy241
                                    have H' := Aside0.mk H
                                    clear H
                                    have p239 : 0 ≤ (x9_3 : Int) := of_decide_eq_true (by first | (with_reducible assumption) | assumption)
                                    have q239 : x9_3 < (t225.length : Int) := of_decide_eq_true (by first | (with_reducible assumption) | assumption)
                                    obtain ⟨ad239, e239, hx239_0⟩ := Kd.at_int (Kd.R_reads' HO_6.out).2.2 x9_3 p239 q239
                                    cases e239
                                    replace p239 := eq_true p239
                                    replace q239 := eq_true q239
                                    have p240 : 0 ≤ (x9_3 : Int) := of_decide_eq_true (by first | (with_reducible assumption) | assumption)
                                    have q240 : x9_3 < (l1.length : Int) := of_decide_eq_true (by first | (with_reducible assumption) | assumption)
                                    obtain ⟨ad240, e240, hx240_0, hx240_1⟩ := at_T25 HR1.out x9_3 p240 q240
                                    cases e240
                                    replace hx240_0 := (HB.out.cell (World.block_lt_of_cell? w _ hx240_0)).trans hx240_0
                                    replace hx240_1 := (HB.out.cell (World.block_lt_of_cell? w _ hx240_1)).trans hx240_1
                                    replace p240 := eq_true p240
                                    replace q240 := eq_true q240
                                    go_wp2_with (first | ((with_reducible refine gate_builtin (b := .append) (xs := #[.tmp 90, .tmp 95]) rfl ?_); (try (refine gate_guard (by rfl) ?_; dsimp only)); at_builtin; refine Kd.R_append k25 (w0 := w) w.heap.size rfl (.tmp 90) (.tmp 95) 22 25 (.agg #[(.int .i64 0), (.int .u64 0)]) 16 rfl Try.underlying22 info25 rfl (by decide) (by omega) u8 x8_3 (⟨(rd_T25 l1 x9_3).f0, (rd_T25 l1 x9_3).f1⟩ : S25) [.int .i64 ((rd_T25 l1 x9_3).f0), .int .u64 ((rd_T25 l1 x9_3).f1)] (fun k_ => some k_ ≠ (v227 : Value).ownBlock) (fun _ => False) rfl rfl ?aP (fun _ hk => hk.elim) ?aF ?aO ?aB ?aS ?aL ?_; (case aP => exact k25_mkM _ _ _ (⟨(rd_T25 l1 x9_3).f0, (rd_T25 l1 x9_3).f1⟩ : S25)); (case aB => exact (by repeat (first | (with_reducible first | exact HB.out | apply below_alloc | apply pw_below_drewN | apply below_drew1) | exact HB.out))); (case aF => exact (fun k_ hk => Kd.fresh' (Kd.R_lt (by (with_reducible repeat (first | apply Kd.R_alloc | apply Kd.R_drewN | apply Kd.R_drew)); exact HO_5.out)) k_ hk)); (case aO => exact (by (with_reducible repeat (first | apply Kd.R_alloc | apply Kd.R_drewN | apply Kd.R_drew)); exact HO_8.out)); (case aS => exact (below_size (by repeat (first | (with_reducible first | exact HB.out | apply below_alloc | apply pw_below_drewN | apply below_drew1) | exact HB.out)))); (case aL => have := LMc47.out; omega); intro v242 w48 ho hb hg hat; rw [← Ny241.out] at ho; have n0_ := Aside0.mk (Kd.R_after (ok := (fun _ => True)) (by (with_reducible repeat (first | apply Kd.R_alloc | apply Kd.R_drewN | apply Kd.R_drew)); exact Kd.R_mono HO_5.out (fun _ hk => ⟨trivial, hk⟩)) hg hat); have n1_ := Aside0.mk (Kd.R_over' (by (with_reducible repeat (first | apply Kd.R_alloc | apply Kd.R_drewN | apply Kd.R_drew)); exact HO_6.out) (Kd.R_typed (by (with_reducible repeat (first | apply Kd.R_alloc | apply Kd.R_drewN | apply Kd.R_drew)); exact HO_8.out)) (by decide) hg); have n2_ := Aside0.mk (hb); have n3_ := Aside0.mk (ho); clear HO_5; clear HO_6; clear HB; clear HO_8; have HO_5 := n0_; have HO_6 := n1_; have HB := n2_; have HO243 := n3_; clear n0_ n1_ n2_ n3_; clear ho hb hg hat))
                                    go_roundg kj37
                                    case measure => have := HJ2.out; have := HJ15.out; have := HK3.out; have := HJ37.out; omega
                                    case rel => exact ⟨(y241), (wrap64 (x9_3 + 1)), (by first | rfl | (simp; done) | (simp [*]; done)), H', ⟨by have := HJ2.out; have := HJ15.out; have := HK3.out; have := HJ37.out; omega⟩, ⟨by (with_reducible repeat (first | apply Kd.R_alloc | apply Kd.R_drewN | apply Kd.R_drew)); exact Kd.R_mono HO_5.out (fun _ hk => hk.2)⟩, ⟨by (with_reducible repeat (first | apply Kd.R_alloc | apply Kd.R_drewN | apply Kd.R_drew)); exact HO_6.out⟩, ⟨by (with_reducible repeat (first | apply Kd.R_alloc | apply Kd.R_drewN | apply Kd.R_drew)); exact HO243.out⟩, ⟨by repeat (first | (with_reducible first | exact HB.out | apply below_alloc | apply pw_below_drewN | apply below_drew1) | exact HB.out)⟩⟩
                                  · rw [if_neg c47] at H
                                    exact absurd H (by simp)
                                · rw [if_neg c46] at H
                                  exact absurd H (by simp)
                              · rw [if_neg c45] at H
                                have c45b0 : ((rd t225 x9_3) == 1) = false := beq_eq_false_iff_ne.mpr c45
                                have c45b1 : ((rd t225 x9_3) != 1) = true := bne_iff_ne.mpr c45
                                have H' := Aside0.mk H
                                clear H
                                have p239 : 0 ≤ (x9_3 : Int) := of_decide_eq_true (by first | (with_reducible assumption) | assumption)
                                have q239 : x9_3 < (t225.length : Int) := of_decide_eq_true (by first | (with_reducible assumption) | assumption)
                                obtain ⟨ad239, e239, hx239_0⟩ := Kd.at_int (Kd.R_reads' HO_6.out).2.2 x9_3 p239 q239
                                cases e239
                                replace p239 := eq_true p239
                                replace q239 := eq_true q239
                                go_wp2
                                go_roundg kj37
                                case measure => have := HJ2.out; have := HJ15.out; have := HK3.out; have := HJ37.out; omega
                                case rel => exact ⟨(x8_3), (wrap64 (x9_3 + 1)), (by first | rfl | (simp; done) | (simp [*]; done)), H', ⟨by have := HJ2.out; have := HJ15.out; have := HK3.out; have := HJ37.out; omega⟩, ⟨by (with_reducible repeat (first | apply Kd.R_alloc | apply Kd.R_drewN | apply Kd.R_drew)); exact HO_5.out⟩, ⟨by (with_reducible repeat (first | apply Kd.R_alloc | apply Kd.R_drewN | apply Kd.R_drew)); exact HO_6.out⟩, ⟨by (with_reducible repeat (first | apply Kd.R_alloc | apply Kd.R_drewN | apply Kd.R_drew)); exact HO_8.out⟩, ⟨by repeat (first | (with_reducible first | exact HB.out | apply below_alloc | apply pw_below_drewN | apply below_drew1) | exact HB.out)⟩⟩
                            · rw [if_neg c44] at H
                              exact absurd H (by simp)
                          · rw [if_neg c43] at H
                            exact absurd H (by simp)
                  · rw [if_neg c37] at H
                    have c37b0 : decide (x9_3 < (t225.length : Int)) = false := decide_eq_false c37
                    clear c37
                    replace H := Option.bind_eq_some_iff.mp H
                    obtain ⟨⟨t244, t245⟩, A490, H⟩ := H
                    replace H : (if 0 ≤ (l0.length : Int) then (if (l0.length : Int) ≤ (t224.length : Int) then ((batonref22_Same.f k3 (t224.drop ((l0.length : Int) : Int).toNat) x8_3).bind fun t252 => (if t252 = true then (if t245 = 0 then ((batonref22_Same.f k3 t244 t224).bind fun t253 => (if t253 = true then ((series_Count.f t225).bind fun bt254 => (some (bt254.2.1 == (x8_3.length : Int)))) else (none))) else (none)) else (none))) else (none)) else (none)) = some r := H
                    have A49 := Aside0.mk A490
                    clear A490
                    by_cases c50 : 0 ≤ (l0.length : Int)
                    · rw [if_pos c50] at H
                      have c50b0 := eq_true c50
                      have c50b1 : decide (0 ≤ (l0.length : Int)) = true := decide_eq_true c50
                      clear c50
                      by_cases c51 : (l0.length : Int) ≤ (t224.length : Int)
                      · rw [if_pos c51] at H
                        have c51b0 := eq_true c51
                        have c51b1 : decide ((l0.length : Int) ≤ (t224.length : Int)) = true := decide_eq_true c51
                        clear c51
                        obtain ⟨y248, hy248⟩ : ∃ y_ : List (S25), y_ = (t224.drop ((l0.length : Int) : Int).toNat) := ⟨_, rfl⟩
                        replace H : ((batonref22_Same.f k3 y248 x8_3).bind fun t252 => (if t252 = true then (if t245 = 0 then ((batonref22_Same.f k3 t244 t224).bind fun t253 => (if t253 = true then ((series_Count.f t225).bind fun bt254 => (some (bt254.2.1 == (x8_3.length : Int)))) else (none))) else (none)) else (none))) = some r := by first | (rw [hy248]; with_reducible exact H) | (have H2_ := (Option.bind_some _ _).symm.trans H; rw [hy248]; with_reducible exact H2_) | (have H2_ := (Option.bind_some _ _).symm.trans H; with_reducible exact H2_) | with_reducible exact H | (rw [hy248]; exact H) | exact H
                        have Ny248 := Aside0.mk hy248
                        clear hy248
                        replace H := Option.bind_eq_some_iff.mp H
                        obtain ⟨t252, A520, H⟩ := H
                        replace H : (if t252 = true then (if t245 = 0 then ((batonref22_Same.f k3 t244 t224).bind fun t253 => (if t253 = true then ((series_Count.f t225).bind fun bt254 => (some (bt254.2.1 == (x8_3.length : Int)))) else (none))) else (none)) else (none)) = some r := H
                        have A52 := Aside0.mk A520
                        clear A520
                        by_cases c53 : t252 = true
                        · subst c53
                          have H1 : (if t245 = 0 then ((batonref22_Same.f k3 t244 t224).bind fun t253 => (if t253 = true then ((series_Count.f t225).bind fun bt254 => (some (bt254.2.1 == (x8_3.length : Int)))) else (none))) else (none)) = some r := by rw [if_pos rfl] at H; exact H
                          clear H
                          have H := H1
                          clear H1
                          by_cases c54 : t245 = 0
                          · rw [if_pos c54] at H
                            have c54b0 : (t245 == 0) = true := beq_iff_eq.mpr c54
                            have c54b1 : (t245 != 0) = false := bne_eq_false_iff_eq.mpr c54
                            clear c54
                            replace H := Option.bind_eq_some_iff.mp H
                            obtain ⟨t253, A550, H⟩ := H
                            replace H : (if t253 = true then ((series_Count.f t225).bind fun bt254 => (some (bt254.2.1 == (x8_3.length : Int)))) else (none)) = some r := H
                            have A55 := Aside0.mk A550
                            clear A550
                            by_cases c56 : t253 = true
                            · subst c56
                              have H1 : ((series_Count.f t225).bind fun bt254 => (some (bt254.2.1 == (x8_3.length : Int)))) = some r := by rw [if_pos rfl] at H; exact H
                              clear H
                              have H := H1
                              clear H1
                              replace H := Option.bind_eq_some_iff.mp H
                              obtain ⟨⟨t254, t255, t256, t257, t258⟩, A570, H⟩ := H
                              replace H : (some (t255 == (x8_3.length : Int))) = some r := H
                              have A57 := Aside0.mk A570
                              clear A570
                              obtain rfl := Option.some.inj H
                              obtain ⟨Ao58, co58, eo58⟩ := Kd.R_slice HO_6.out
                              subst eo58
                              obtain ⟨Ao59, co59, eo59⟩ := Kd.R_slice HO_8.out
                              subst eo59
                              go_wp2_with (first | ((with_reducible refine gate_callee (f := 22) rfl ?_); refine goesL_ (some 100) rfl rfl Try.func22 (by kernel_rfl) rfl #[.slice A0 l0.length c0, .slice Ao59 x8_3.length co59] rfl (by (try simp only [List.map_toArray, List.map_cons, List.map_nil]); first | done | rfl | (simp only [List.length_drop, List.length_take]; rfl)) ?_; (with_reducible refine (series_Join.calls k3 _ _ l0 _ _ x8_3 t244 t245 _ ?side1 ?side2 ?side3 ?side4 A49.out).mono ?_); (case side1 => repeat (first | exact (Kd.C_below HR0.out HB.out) | (with_reducible refine Kd.C_alloc ?_ _) | (with_reducible refine Kd.C_drewN ?_ _) | (with_reducible refine Kd.C_drew ?_))); (case side2 => exact HC0.out); (case side3 => repeat (first | exact (Kd.R_reads' HO_8.out).2.2 | (with_reducible refine Kd.C_alloc ?_ _) | (with_reducible refine Kd.C_drewN ?_ _) | (with_reducible refine Kd.C_drew ?_))); (case side4 => exact (Kd.R_reads' HO_8.out).2.1); rintro e w60 ⟨v246, rfl, ho0, hb⟩; refine ⟨_, rfl, ?_⟩; have n0_ := Aside0.mk (Kd.R_elder' (by (with_reducible repeat (first | apply Kd.R_alloc | apply Kd.R_drewN | apply Kd.R_drew)); exact HO_5.out) (Kd.R_base ho0) hb); have n1_ := Aside0.mk (Kd.R_below (by (with_reducible repeat (first | apply Kd.R_alloc | apply Kd.R_drewN | apply Kd.R_drew)); exact HO_6.out) hb); have n2_ := Aside0.mk (Kd.R_elder' (by (with_reducible repeat (first | apply Kd.R_alloc | apply Kd.R_drewN | apply Kd.R_drew)); exact HO_8.out) (Kd.R_base ho0) hb); have n3_ := Aside0.mk (Kd.R_lower (Kd.R_new' (Kd.R_new' ho0 (Kd.R_lt (by (with_reducible repeat (first | apply Kd.R_alloc | apply Kd.R_drewN | apply Kd.R_drew)); exact HO_5.out))) (Kd.R_lt (by (with_reducible repeat (first | apply Kd.R_alloc | apply Kd.R_drewN | apply Kd.R_drew)); exact HO_8.out))) (below_size (by repeat (first | (with_reducible first | exact HB.out | apply below_alloc | apply pw_below_drewN | apply below_drew1) | exact HB.out)))); have n4_ := Aside0.mk (below_step (by repeat (first | (with_reducible first | exact HB.out | apply below_alloc | apply pw_below_drewN | apply below_drew1) | exact HB.out)) hb); clear HO_5; clear HO_6; clear HO_8; clear HB; have HO_5 := n0_; have HO_6 := n1_; have HO_8 := n2_; have HO247 := n3_; have HB := n4_; clear n0_ n1_ n2_ n3_ n4_; (try clear hb); (try clear hb2); (try clear hk); (try clear hi); (try clear ho0); obtain ⟨Ao62, co62, eo62⟩ := Kd.R_slice HO_5.out; subst eo62; have q61 : ((l0.length : Int) : Int) ≤ ((t224.length : Int) : Int) := of_decide_eq_true (by first | (with_reducible assumption) | assumption); obtain ⟨i061, hi061, _, hsz61, _⟩ := info_parts info25; have hroom61 : t224.length ≤ co62 := (Kd.R_reads' HO_5.out).2.1; have hC61 : Kd.C k25 _ Ao62 t224.length t224 := (Kd.R_reads' HO_5.out).2.2; have q061 : (0 : Int) ≤ ((l0.length : Int) : Int) := of_decide_eq_true (by first | (with_reducible assumption) | assumption); have hcut61 := cut_from (P := Try.prog) 22 25 .i64 Try.underlying22 hi061 2 hsz61 Ao62 t224.length co62 (l0.length : Int) q061 q61; have hr61 := Kd.C_drop (m := ((l0.length : Int) : Int).toNat) (c := co62) hC61 (by omega) hroom61; obtain ⟨A61, hA61⟩ : ∃ A1, A1 = (if co62 = ((l0.length : Int) : Int).toNat then Ao62 else (Ao62 : Option Addr).map (·.add (((l0.length : Int) : Int).toNat * 2))) := ⟨_, rfl⟩; obtain ⟨c61, hc61⟩ : ∃ c1, c1 = co62 - ((l0.length : Int) : Int).toNat := ⟨_, rfl⟩; have hy61 : y248.length = t224.length - ((l0.length : Int) : Int).toNat := (by rw [Ny248.out, List.length_drop] <;> omega); rw [show (t224).drop ((l0.length : Int) : Int).toNat = y248 from Ny248.out.symm] at hr61; replace hr61 : Kd.C k25 _ A61 y248.length y248 := (by rw [hA61]; exact hr61); rw [← hy61, ← hA61, ← hc61] at hcut61; have HR251 := Aside0.mk hr61; have HC251 := Aside0.mk (show y248.length ≤ c61 from by rw [hy61, hc61]; exact Nat.sub_le_sub_right hroom61 _); clear hr61 hC61 hroom61 hi061 hsz61 hc61; have KY61 := Aside0.mk hy61; have KA61 := Aside0.mk hA61; clear hy61 hA61; have KL61 := Aside0.mk (show ((l0.length : Int) : Int).toNat ≤ t224.length from by omega); replace q61 := eq_true q61) | ((with_reducible refine gate_callee (f := 12) rfl ?_); refine goesL_ (some 108) rfl rfl Try.func12 (by kernel_rfl) rfl #[.slice A61 y248.length c61, .slice Ao59 x8_3.length co59] rfl (by (try simp only [List.map_toArray, List.map_cons, List.map_nil]); first | done | rfl | (simp only [List.length_drop, List.length_take]; rfl)) ?_; (with_reducible refine (batonref22_Same.calls k3 _ _ y248 _ _ x8_3 true _ ?side1 ?side2 ?side3 ?side4 A52.out).mono ?_); (case side1 => repeat (first | exact (by repeat (first | (with_reducible exact HR251.out) | (with_reducible refine Kd.C_alloc ?_ _) | (with_reducible refine Kd.C_drewN ?_ _) | (with_reducible refine Kd.C_drew ?_) | exact HR251.out)) | (with_reducible refine Kd.C_alloc ?_ _) | (with_reducible refine Kd.C_drewN ?_ _) | (with_reducible refine Kd.C_drew ?_))); (case side2 => exact HC251.out); (case side3 => repeat (first | exact (Kd.R_reads' HO_8.out).2.2 | (with_reducible refine Kd.C_alloc ?_ _) | (with_reducible refine Kd.C_drewN ?_ _) | (with_reducible refine Kd.C_drew ?_))); (case side4 => exact (Kd.R_reads' HO_8.out).2.1); rintro e w' ⟨rfl, ⟨nd, rfl⟩⟩; refine ⟨_, rfl, ?_⟩; obtain ⟨Ao63, co63, eo63⟩ := Kd.R_slice HO247.out; subst eo63) | (go_at_call 12; (with_reducible refine (batonref22_Same.calls k3 _ _ t244 _ _ t224 true _ ?side1 ?side2 ?side3 ?side4 A55.out).mono ?_); (case side1 => repeat (first | exact (Kd.R_reads' HO247.out).2.2 | (with_reducible refine Kd.C_alloc ?_ _) | (with_reducible refine Kd.C_drewN ?_ _) | (with_reducible refine Kd.C_drew ?_))); (case side2 => exact (Kd.R_reads' HO247.out).2.1); (case side3 => repeat (first | exact (Kd.R_reads' HO_5.out).2.2 | (with_reducible refine Kd.C_alloc ?_ _) | (with_reducible refine Kd.C_drewN ?_ _) | (with_reducible refine Kd.C_drew ?_))); (case side4 => exact (Kd.R_reads' HO_5.out).2.1); rintro e w' ⟨rfl, ⟨nd, rfl⟩⟩) | (go_at_call 20; (with_reducible refine (series_Count.calls _ _ t225 t254 t255 t256 t257 t258 _ ?side1 ?side2 A57.out).mono ?_); (case side1 => repeat (first | exact (Kd.R_reads' HO_6.out).2.2 | (with_reducible refine Kd.C_alloc ?_ _) | (with_reducible refine Kd.C_drewN ?_ _) | (with_reducible refine Kd.C_drew ?_))); (case side2 => exact (Kd.R_reads' HO_6.out).2.1); rintro e w64 ⟨rfl, hb⟩; have n0_ := Aside0.mk (Kd.R_below (by (with_reducible repeat (first | apply Kd.R_alloc | apply Kd.R_drewN | apply Kd.R_drew)); exact HO_5.out) hb); have n1_ := Aside0.mk (Kd.R_below (by (with_reducible repeat (first | apply Kd.R_alloc | apply Kd.R_drewN | apply Kd.R_drew)); exact HO_6.out) hb); have n2_ := Aside0.mk (Kd.R_below (by (with_reducible repeat (first | apply Kd.R_alloc | apply Kd.R_drewN | apply Kd.R_drew)); exact HO_8.out) hb); have n3_ := Aside0.mk (Kd.R_below (by (with_reducible repeat (first | apply Kd.R_alloc | apply Kd.R_drewN | apply Kd.R_drew)); exact HO247.out) hb); have n4_ := Aside0.mk (Kd.C_below (by repeat (first | (with_reducible exact HR251.out) | (with_reducible refine Kd.C_alloc ?_ _) | (with_reducible refine Kd.C_drewN ?_ _) | (with_reducible refine Kd.C_drew ?_) | exact HR251.out)) hb); have n5_ := Aside0.mk (below_step (by repeat (first | (with_reducible first | exact HB.out | apply below_alloc | apply pw_below_drewN | apply below_drew1) | exact HB.out)) hb); clear HO_5; clear HO_6; clear HO_8; clear HO247; clear HR251; clear HB; have HO_5 := n0_; have HO_6 := n1_; have HO_8 := n2_; have HO247 := n3_; have HR251 := n4_; have HB := n5_; clear n0_ n1_ n2_ n3_ n4_ n5_; (try clear hb); (try clear hb2); (try clear hk); (try clear hi)))
                              go_ret
                              exact ⟨by first | rfl | (simp [errW_none, errW_some] <;> rfl) | (simp [*, errW_none, errW_some] <;> rfl), by repeat (first | (with_reducible first | exact HB.out | apply below_alloc | apply pw_below_drewN | apply below_drew1) | exact HB.out)⟩
                            · replace c56 := Bool.eq_false_iff.mpr c56
                              subst c56
                              have H1 : (none) = some r := by rw [if_neg (show ¬ (false = true) by decide)] at H; exact H
                              clear H
                              have H := H1
                              clear H1
                              exact absurd H (by simp)
                          · rw [if_neg c54] at H
                            exact absurd H (by simp)
                        · replace c53 := Bool.eq_false_iff.mpr c53
                          subst c53
                          have H1 : (none) = some r := by rw [if_neg (show ¬ (false = true) by decide)] at H; exact H
                          clear H
                          have H := H1
                          clear H1
                          exact absurd H (by simp)
                      · rw [if_neg c51] at H
                        exact absurd H (by simp)
                    · rw [if_neg c50] at H
                      exact absurd H (by simp)

/-- THE ONE PURE STATEMENT of batonlaw22_SeriesKept. -/
def batonlaw22_SeriesKept.Pure : Prop := ∀ (l0 : List (S25)) (l1 : List (S25)), l0.length ≤ maxLen → l0.length * 16 ≤ 140737488351232 → (∀ x ∈ l0, (Lit.int .i64 x.f0).wf = true ∧ (Lit.int .u64 x.f1).wf = true) → l1.length ≤ maxLen → l1.length * 16 ≤ 140737488351232 → (∀ x ∈ l1, (Lit.int .i64 x.f0).wf = true ∧ (Lit.int .u64 x.f1).wf = true) → ∃ k, batonlaw22_SeriesKept.f k l0 l1 = some true

end Go.Proofs.Ytbedpnklnamnhaa.PE

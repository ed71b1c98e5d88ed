/- The machine side of these statements: what each Go function computes as a plain function, and that its call computes just that. Written by a program of mine (wip/drive.py). No conditions. -/
import Derived.Test.YthcjcmgdblhhfaaPVx0
namespace Go.Proofs.Ythcjcmgdblhhfaa.PV
open Go.RowKit Go.Proofs.YthcjcmgdblhhfaaW.PrintWords Go.Proofs.YthcjcmgdblhhfaaW.PrintLast Go.Proofs.YthcjcmgdblhhfaaW.PrintMore
attribute [local go_sem] max2_int min2_int max_two min_two max_three min_three max_four min_four   -- for this text's walks alone
set_option linter.unusedVariables false
set_option linter.unusedSimpArgs false

/-! ### batonref03_Match: function 24 -/
mutual
def batonref03_Match.j0 : Nat → ByteArray → Int → Bool → Option (Int × Int)
 | 0,_,_,_=>none
 | k + 1,x0,x1,x17=>if x17 = true then (some (0,0)) else (batonref03_Match.l0 k x0 x1 0 0 1)
def batonref03_Match.l0 : Nat → ByteArray → Int → Int → Int → Int → Option (Int × Int)
 | 0,_,_,_,_,_=>none
 | k + 1,x0,x1,x6,x7,x8=>if x8 ≤ x1 then (batonref03_Match.j2 k x0 x1 x6 x7 x8 (decide (x8 ≤ 65535))) else (batonref03_Match.j2 k x0 x1 x6 x7 x8 false)
def batonref03_Match.j2 : Nat → ByteArray → Int → Int → Int → Int → Bool → Option (Int × Int)
 | 0,_,_,_,_,_,_=>none
 | k + 1,x0,x1,x6,x7,x8,x24=>if x24 = true then (batonref03_Match.l1 k x0 x1 x6 x7 x8 0) else (some (x6,x7))
def batonref03_Match.l1 : Nat → ByteArray → Int → Int → Int → Int → Int → Option (Int × Int)
 | 0,_,_,_,_,_,_=>none
 | k + 1,x0,x1,x6,x7,x8,x9=>if x9 < 64 then (if (wrap64 (x1 + x9)) < (x0.size : Int) then (if 0 ≤ (wrap64 (x1 + x9)) then (if 0 ≤ (wrap64 ((wrap64 (x1 + x9)) - x8)) then (if (wrap64 ((wrap64 (x1 + x9)) - x8)) < (x0.size : Int) then (if (bt x0 (wrap64 (x1 + x9))) = (bt x0 (wrap64 ((wrap64 (x1 + x9)) - x8))) then (batonref03_Match.l1 k x0 x1 x6 x7 x8 (wrap64 (x9 + 1))) else (if x9 > x7 then (batonref03_Match.l0 k x0 x1 x8 x9 (wrap64 (x8 + 1))) else (batonref03_Match.l0 k x0 x1 x6 x7 (wrap64 (x8 + 1))))) else (none)) else (none)) else (none)) else (if x9 > x7 then (batonref03_Match.l0 k x0 x1 x8 x9 (wrap64 (x8 + 1))) else (batonref03_Match.l0 k x0 x1 x6 x7 (wrap64 (x8 + 1))))) else (if x9 > x7 then (batonref03_Match.l0 k x0 x1 x8 x9 (wrap64 (x8 + 1))) else (batonref03_Match.l0 k x0 x1 x6 x7 (wrap64 (x8 + 1))))
end
def batonref03_Match.f (k : Nat) (a0 : ByteArray) (a1 : Int) : Option (Int × Int) := if a1 < 0 then (batonref03_Match.j0 k a0 a1 true) else (batonref03_Match.j0 k a0 a1 (decide (a1 ≥ (a0.size : Int))))
theorem batonref03_Match.mono_l : ∀ k, (∀ y0 y1 y2, LeO (batonref03_Match.j0 k y0 y1 y2) (batonref03_Match.j0 (k + 1) y0 y1 y2)) ∧ (∀ y0 y1 y2 y3 y4, LeO (batonref03_Match.l0 k y0 y1 y2 y3 y4) (batonref03_Match.l0 (k + 1) y0 y1 y2 y3 y4)) ∧ (∀ y0 y1 y2 y3 y4 y5, LeO (batonref03_Match.j2 k y0 y1 y2 y3 y4 y5) (batonref03_Match.j2 (k + 1) y0 y1 y2 y3 y4 y5)) ∧ (∀ y0 y1 y2 y3 y4 y5, LeO (batonref03_Match.l1 k y0 y1 y2 y3 y4 y5) (batonref03_Match.l1 (k + 1) y0 y1 y2 y3 y4 y5))
 | 0=>⟨fun _ _ _ r h=>by simp [batonref03_Match.j0] at h,fun _ _ _ _ _ r h=>by simp [batonref03_Match.l0] at h,fun _ _ _ _ _ _ r h=>by simp [batonref03_Match.j2] at h,fun _ _ _ _ _ _ r h=>by simp [batonref03_Match.l1] at h⟩
 | k + 1=>by
  obtain ⟨ih0,ih1,ih2,ih3⟩ := batonref03_Match.mono_l k
  refine ⟨?_,?_,?_,?_⟩
  ·intro y0 y1 y2
   unfold batonref03_Match.j0
   repeat' first
   | (with_reducible exact ih0 _ _ _)
   | (with_reducible exact ih1 _ _ _ _ _)
   | (with_reducible exact ih2 _ _ _ _ _ _)
   | (with_reducible exact ih3 _ _ _ _ _ _)
   | (with_reducible exact LeO.refl _)
   | (with_reducible exact LeO.none _)
   | (with_reducible refine LeO.ite ?_ ?_)
   | (with_reducible refine LeO.bind ?_ (fun _=>?_))
   | exact ih0 _ _ _
   | exact ih1 _ _ _ _ _
   | exact ih2 _ _ _ _ _ _
   | exact ih3 _ _ _ _ _ _
   | exact LeO.none _
   | refine LeO.ite ?_ ?_
   | refine LeO.bind ?_ (fun _=>?_)
  ·intro y0 y1 y2 y3 y4
   unfold batonref03_Match.l0
   repeat' first
   | (with_reducible exact ih0 _ _ _)
   | (with_reducible exact ih1 _ _ _ _ _)
   | (with_reducible exact ih2 _ _ _ _ _ _)
   | (with_reducible exact ih3 _ _ _ _ _ _)
   | (with_reducible exact LeO.refl _)
   | (with_reducible exact LeO.none _)
   | (with_reducible refine LeO.ite ?_ ?_)
   | (with_reducible refine LeO.bind ?_ (fun _=>?_))
   | exact ih0 _ _ _
   | exact ih1 _ _ _ _ _
   | exact ih2 _ _ _ _ _ _
   | exact ih3 _ _ _ _ _ _
   | exact LeO.none _
   | refine LeO.ite ?_ ?_
   | refine LeO.bind ?_ (fun _=>?_)
  ·intro y0 y1 y2 y3 y4 y5
   unfold batonref03_Match.j2
   repeat' first
   | (with_reducible exact ih0 _ _ _)
   | (with_reducible exact ih1 _ _ _ _ _)
   | (with_reducible exact ih2 _ _ _ _ _ _)
   | (with_reducible exact ih3 _ _ _ _ _ _)
   | (with_reducible exact LeO.refl _)
   | (with_reducible exact LeO.none _)
   | (with_reducible refine LeO.ite ?_ ?_)
   | (with_reducible refine LeO.bind ?_ (fun _=>?_))
   | exact ih0 _ _ _
   | exact ih1 _ _ _ _ _
   | exact ih2 _ _ _ _ _ _
   | exact ih3 _ _ _ _ _ _
   | exact LeO.none _
   | refine LeO.ite ?_ ?_
   | refine LeO.bind ?_ (fun _=>?_)
  ·intro y0 y1 y2 y3 y4 y5
   unfold batonref03_Match.l1
   repeat' first
   | (with_reducible exact ih0 _ _ _)
   | (with_reducible exact ih1 _ _ _ _ _)
   | (with_reducible exact ih2 _ _ _ _ _ _)
   | (with_reducible exact ih3 _ _ _ _ _ _)
   | (with_reducible exact LeO.refl _)
   | (with_reducible exact LeO.none _)
   | (with_reducible refine LeO.ite ?_ ?_)
   | (with_reducible refine LeO.bind ?_ (fun _=>?_))
   | exact ih0 _ _ _
   | exact ih1 _ _ _ _ _
   | exact ih2 _ _ _ _ _ _
   | exact ih3 _ _ _ _ _ _
   | exact LeO.none _
   | refine LeO.ite ?_ ?_
   | refine LeO.bind ?_ (fun _=>?_)
theorem batonref03_Match.mono : ∀ a0 a1 k, LeO (batonref03_Match.f k a0 a1) (batonref03_Match.f (k + 1) a0 a1) := by
 intro a0 a1 k
 obtain ⟨ih0,ih1,ih2,ih3⟩ := batonref03_Match.mono_l k
 unfold batonref03_Match.f
 repeat' first
   | (with_reducible exact ih0 _ _ _)
   | (with_reducible exact ih1 _ _ _ _ _)
   | (with_reducible exact ih2 _ _ _ _ _ _)
   | (with_reducible exact ih3 _ _ _ _ _ _)
   | (with_reducible exact LeO.refl _)
   | (with_reducible exact LeO.none _)
   | (with_reducible refine LeO.ite ?_ ?_)
   | (with_reducible refine LeO.bind ?_ (fun _=>?_))
   | exact ih0 _ _ _
   | exact ih1 _ _ _ _ _
   | exact ih2 _ _ _ _ _ _
   | exact ih3 _ _ _ _ _ _
   | exact LeO.none _
   | refine LeO.ite ?_ ?_
   | refine LeO.bind ?_ (fun _=>?_)
set_option maxHeartbeats 8000000 in
set_option maxRecDepth 100000 in
theorem batonref03_Match.calls (k : Nat) (a0 : ByteArray) (a1 : Int) (r1 : Int) (r2 : Int) (w : World) (h : batonref03_Match.f k a0 a1 = some (r1, r2)) :
  Calls Try.prog 24 #[.string a0,.int .i64 a1] w fun e w'=>e = .returned (.tuple #[.int .i64 r1,.int .i64 r2]) ∧ Drawn0 w w' := by
 have H : (if a1 < 0 then (batonref03_Match.j0 k a0 a1 true) else (batonref03_Match.j0 k a0 a1 (decide (a1 ≥ (a0.size : Int))))) = some (r1,r2) := h
 clear h
 have HC3 := Aside0.mk H
 clear H
 go_enter Try.func24,Try.ntmps24
 go_upto_region 1 with (fail)
 repeat (go_quiet (fail);go_upto_region 1 with (fail))
 go_cut [17] (fun v17 wc=>∃ (kq : Nat) (x17_2 : Bool),v17 = .bool x17_2 ∧ Aside0 (batonref03_Match.j0 kq a0 a1 x17_2 = some (r1,r2)) ∧ Aside0 (kq ≤ k) ∧ Drawn0 w wc)
 case first =>
  have H := HC3.out
  clear HC3
  by_cases c4 : a1 < 0
  ·rw [if_pos c4] at H
   have c4b0 : decide (a1 < 0) = true := decide_eq_true c4
   clear c4
   (first|rw [c4b0]|(simp only [i64_w,i32_w];rw [c4b0])|skip)
   have H' := Aside0.mk H
   clear H
   go_wp2
   repeat (go_quiet (fail);try go_wp2)
   go_meet
   case rel=>exact ⟨_,(true),q4_,H',⟨q50_⟩,q18_⟩
  ·rw [if_neg c4] at H
   have c4b0 : decide (a1 < 0) = false := decide_eq_false c4
   clear c4
   (first|rw [c4b0]|(simp only [i64_w,i32_w];rw [c4b0])|skip)
   have H' := Aside0.mk H
   clear H
   go_wp2
   repeat (go_quiet (fail);try go_wp2)
   go_meet
   case rel=>exact ⟨_,(decide (a1 ≥ (a0.size : Int))),q4_,H',⟨q50_⟩,q18_⟩
 case rest =>
  clear HC3
  try clear c2
  try clear p2
  try clear c4
  try clear c4b0
  obtain ⟨kq,x17_2,rfl,HA,HJ2,⟨mc2,rfl⟩⟩ := hcut
  cases kq with
  | zero=>exact absurd HA.out (by simp [batonref03_Match.j0])
  | succ kj2 =>
   have H := HA.out
   clear HA
   simp only [batonref03_Match.j0] at H
   by_cases c5 : x17_2 = true
   ·subst c5
    have H1 : (some (0,0)) = some (r1,r2) := by rw [if_pos rfl] at H;exact H
    clear H
    have H := H1
    clear H1
    simp only [Option.some.injEq,Prod.mk.injEq] at H
    obtain ⟨rfl,rfl⟩ := H
    go_wp2
    repeat (go_quiet (fail);try go_wp2)
    go_ret2
    exact ⟨q4_,q18_⟩
   ·replace c5 := Bool.eq_false_iff.mpr c5
    subst c5
    have H1 : (batonref03_Match.l0 kj2 a0 a1 0 0 1) = some (r1,r2) := by rw [if_neg (show ¬ (false = true) by decide)] at H;exact H
    clear H
    have H := H1
    clear H1
    have H' := Aside0.mk H
    clear H
    go_wp2
    repeat (go_quiet (fail);try go_wp2)
    go_loopg [6,7,8] kj2 (fun kq v6 v7 v8 w'=>∃ (x6_2 : Int) (x7_2 : Int) (x8_2 : Int),v6 = .int .i64 x6_2 ∧ v7 = .int .i64 x7_2 ∧ v8 = .int .i64 x8_2 ∧ Aside0 (batonref03_Match.l0 kq a0 a1 x6_2 x7_2 x8_2 = some (r1,r2)) ∧ Aside0 (kq ≤ kj2) ∧ Drawn0 w w')
    case atStart=>exact ⟨(0),(0),(1),q4_,q4_,q4_,H',⟨Nat.le_refl _⟩,q18_⟩
    case round =>
     clear H'
     try clear c2
     try clear p2
     try clear c4
     try clear c4b0
     try clear c5
     try clear p2
     obtain ⟨x6_2,x7_2,x8_2,rfl,rfl,rfl,HA,HK2,⟨m2,rfl⟩⟩ := hrel
     cases gk with
     | zero=>exact absurd HA.out (by simp [batonref03_Match.l0])
     | succ k2 =>
      have H := HA.out
      clear HA
      simp only [batonref03_Match.l0] at H
      have HC6 := Aside0.mk H
      clear H
      go_upto_region 5 with (fail)
      repeat (go_quiet (fail);go_upto_region 5 with (fail))
      go_cut [24] (fun v24 wc=>∃ (kq : Nat) (x24_5 : Bool),v24 = .bool x24_5 ∧ Aside0 (batonref03_Match.j2 kq a0 a1 x6_2 x7_2 x8_2 x24_5 = some (r1,r2)) ∧ Aside0 (kq ≤ k2) ∧ Drawn0 w wc)
      case first =>
       have H := HC6.out
       clear HC6
       by_cases c7 : x8_2 ≤ a1
       ·rw [if_pos c7] at H
        have c7b0 : decide (x8_2 ≤ a1) = true := decide_eq_true c7
        clear c7
        (first|rw [c7b0]|(simp only [i64_w,i32_w];rw [c7b0])|skip)
        have H' := Aside0.mk H
        clear H
        go_wp2
        repeat (go_quiet (fail);try go_wp2)
        go_meet
        case rel=>exact ⟨_,(decide (x8_2 ≤ 65535)),q4_,H',⟨q94_⟩,q18_⟩
       ·rw [if_neg c7] at H
        have c7b0 : decide (x8_2 ≤ a1) = false := decide_eq_false c7
        clear c7
        (first|rw [c7b0]|(simp only [i64_w,i32_w];rw [c7b0])|skip)
        have H' := Aside0.mk H
        clear H
        go_wp2
        repeat (go_quiet (fail);try go_wp2)
        go_meet
        case rel=>exact ⟨_,(false),q4_,H',⟨q94_⟩,q18_⟩
      case rest =>
       clear HC6
       try clear c2
       try clear p2
       try clear c4
       try clear c4b0
       try clear c5
       try clear c7
       try clear c7b0
       try clear p2
       obtain ⟨kq,x24_5,rfl,HA,HJ5,⟨mc5,rfl⟩⟩ := hcut
       cases kq with
       | zero=>exact absurd HA.out (by simp [batonref03_Match.j2])
       | succ kj5 =>
        have H := HA.out
        clear HA
        simp only [batonref03_Match.j2] at H
        by_cases c8 : x24_5 = true
        ·subst c8
         have H1 : (batonref03_Match.l1 kj5 a0 a1 x6_2 x7_2 x8_2 0) = some (r1,r2) := by rw [if_pos rfl] at H;exact H
         clear H
         have H := H1
         clear H1
         have H' := Aside0.mk H
         clear H
         go_wp2
         repeat (go_quiet (fail);try go_wp2)
         go_loopg [9] kj5 (fun kq v9 w'=>∃ (x9_4 : Int),v9 = .int .i64 x9_4 ∧ Aside0 (batonref03_Match.l1 kq a0 a1 x6_2 x7_2 x8_2 x9_4 = some (r1,r2)) ∧ Aside0 (kq ≤ kj5) ∧ Drawn0 w w')
         case atStart=>exact ⟨(0),q4_,H',⟨Nat.le_refl _⟩,q18_⟩
         case round =>
          clear H'
          try clear c2
          try clear p2
          try clear c4
          try clear c4b0
          try clear c5
          try clear c7
          try clear c7b0
          try clear c8
          try clear p2
          obtain ⟨x9_4,rfl,HA,HK4,⟨m4,rfl⟩⟩ := hrel
          cases gk with
          | zero=>exact absurd HA.out (by simp [batonref03_Match.l1])
          | succ k4 =>
           have H := HA.out
           clear HA
           simp only [batonref03_Match.l1] at H
           by_cases c9 : x9_4 < 64
           ·rw [if_pos c9] at H
            have c9b0 : decide (x9_4 < 64) = true := decide_eq_true c9
            clear c9
            by_cases c10 : (wrap64 (a1 + x9_4)) < (a0.size : Int)
            ·rw [if_pos c10] at H
             have c10b0 : decide ((wrap64 (a1 + x9_4)) < (a0.size : Int)) = true := decide_eq_true c10
             clear c10
             obtain ⟨ji11,hji11⟩ : ∃ j_ : Int,(wrap64 (a1 + x9_4)) = j_ := ⟨_,rfl⟩
             replace H : (if 0 ≤ (ji11) then (if 0 ≤ (wrap64 ((ji11) - x8_2)) then (if (wrap64 ((ji11) - x8_2)) < (a0.size : Int) then (if (bt a0 (ji11)) = (bt a0 (wrap64 ((ji11) - x8_2))) then (batonref03_Match.l1 k4 a0 a1 x6_2 x7_2 x8_2 (wrap64 (x9_4 + 1))) else (if x9_4 > x7_2 then (batonref03_Match.l0 k4 a0 a1 x8_2 x9_4 (wrap64 (x8_2 + 1))) else (batonref03_Match.l0 k4 a0 a1 x6_2 x7_2 (wrap64 (x8_2 + 1))))) else (none)) else (none)) else (none)) = some (r1,r2) := by first|(rw [hji11] at H;exact H)|(simp only [hji11] at H ⊢;exact H)
             (try rw [hji11] at c10b0)
             have hji11w : (IntKind.i64.wrap (a1 + x9_4)) = ji11 := (i64_w _).trans hji11
             by_cases c12 : 0 ≤ (ji11)
             ·rw [if_pos c12] at H
              have c12b0 : decide (0 ≤ (ji11)) = true := decide_eq_true c12
              clear c12
              obtain ⟨ji14,hji14⟩ : ∃ j_ : Int,(wrap64 ((ji11) - x8_2)) = j_ := ⟨_,rfl⟩
              replace H : (if 0 ≤ (ji14) then (if (ji14) < (a0.size : Int) then (if (bt a0 (ji11)) = (bt a0 (ji14)) then (batonref03_Match.l1 k4 a0 a1 x6_2 x7_2 x8_2 (wrap64 (x9_4 + 1))) else (if x9_4 > x7_2 then (batonref03_Match.l0 k4 a0 a1 x8_2 x9_4 (wrap64 (x8_2 + 1))) else (batonref03_Match.l0 k4 a0 a1 x6_2 x7_2 (wrap64 (x8_2 + 1))))) else (none)) else (none)) = some (r1,r2) := by first|(rw [hji14] at H;exact H)|(simp only [hji14] at H ⊢;exact H)
              have hji14w : (IntKind.i64.wrap ((ji11) - x8_2)) = ji14 := (i64_w _).trans hji14
              by_cases c15 : 0 ≤ (ji14)
              ·rw [if_pos c15] at H
               have c15b0 : decide (0 ≤ (ji14)) = true := decide_eq_true c15
               clear c15
               by_cases c16 : (ji14) < (a0.size : Int)
               ·rw [if_pos c16] at H
                have c16b0 : decide ((ji14) < (a0.size : Int)) = true := decide_eq_true c16
                clear c16
                by_cases c18 : (bt a0 (ji11)) = (bt a0 (ji14))
                ·rw [if_pos c18] at H
                 have c18b0 : ((bt a0 (ji11)) == (bt a0 (ji14))) = true := beq_iff_eq.mpr c18
                 have c18b1 : ((bt a0 (ji11)) != (bt a0 (ji14))) = false := bne_eq_false_iff_eq.mpr c18
                 clear c18
                 have H' := Aside0.mk H
                 clear H
                 have p13 : 0 ≤ ((ji11) : Int) := of_decide_eq_true q3_
                 have q13 : (ji11) < (a0.size : Int) := of_decide_eq_true q3_
                 have hx13 := bt_at a0 (ji11)
                 replace p13 := eq_true p13
                 replace q13 := eq_true q13
                 have p17 : 0 ≤ ((ji14) : Int) := of_decide_eq_true q3_
                 have q17 : (ji14) < (a0.size : Int) := of_decide_eq_true q3_
                 have hx17 := bt_at a0 (ji14)
                 replace p17 := eq_true p17
                 replace q17 := eq_true q17
                 go_wp2
                 repeat (go_quiet (fail);try go_wp2)
                 go_roundg k4
                 case measure=>have := HJ2.out;have := HK2.out;have := HJ5.out;have := HK4.out;omega
                 case rel=>exact ⟨(wrap64 (x9_4 + 1)),q4_,H',⟨q84_⟩,q18_⟩
                ·rw [if_neg c18] at H
                 have c18b0 : ((bt a0 (ji11)) == (bt a0 (ji14))) = false := beq_eq_false_iff_ne.mpr c18
                 have c18b1 : ((bt a0 (ji11)) != (bt a0 (ji14))) = true := bne_iff_ne.mpr c18
                 by_cases c19 : x9_4 > x7_2
                 ·rw [if_pos c19] at H
                  have c19b0 : decide (x7_2 < x9_4) = true := decide_eq_true c19
                  clear c19
                  have H' := Aside0.mk H
                  clear H
                  have p13 : 0 ≤ ((ji11) : Int) := of_decide_eq_true q3_
                  have q13 : (ji11) < (a0.size : Int) := of_decide_eq_true q3_
                  have hx13 := bt_at a0 (ji11)
                  replace p13 := eq_true p13
                  replace q13 := eq_true q13
                  have p17 : 0 ≤ ((ji14) : Int) := of_decide_eq_true q3_
                  have q17 : (ji14) < (a0.size : Int) := of_decide_eq_true q3_
                  have hx17 := bt_at a0 (ji14)
                  replace p17 := eq_true p17
                  replace q17 := eq_true q17
                  go_wp2
                  repeat (go_quiet (fail);try go_wp2)
                  go_roundg k4
                  case measure=>have := HJ2.out;have := HK2.out;have := HJ5.out;have := HK4.out;omega
                  case rel=>exact ⟨(x8_2),(x9_4),(wrap64 (x8_2 + 1)),q4_,q4_,q4_,H',⟨q84_⟩,q18_⟩
                 ·rw [if_neg c19] at H
                  have c19b0 : decide (x7_2 < x9_4) = false := decide_eq_false c19
                  clear c19
                  have H' := Aside0.mk H
                  clear H
                  have p13 : 0 ≤ ((ji11) : Int) := of_decide_eq_true q3_
                  have q13 : (ji11) < (a0.size : Int) := of_decide_eq_true q3_
                  have hx13 := bt_at a0 (ji11)
                  replace p13 := eq_true p13
                  replace q13 := eq_true q13
                  have p17 : 0 ≤ ((ji14) : Int) := of_decide_eq_true q3_
                  have q17 : (ji14) < (a0.size : Int) := of_decide_eq_true q3_
                  have hx17 := bt_at a0 (ji14)
                  replace p17 := eq_true p17
                  replace q17 := eq_true q17
                  go_wp2
                  repeat (go_quiet (fail);try go_wp2)
                  go_roundg k4
                  case measure=>have := HJ2.out;have := HK2.out;have := HJ5.out;have := HK4.out;omega
                  case rel=>exact ⟨(x6_2),(x7_2),(wrap64 (x8_2 + 1)),q4_,q4_,q4_,H',⟨q84_⟩,q18_⟩
               ·rw [if_neg c16] at H
                exact absurd H (by simp)
              ·rw [if_neg c15] at H
               exact absurd H (by simp)
             ·rw [if_neg c12] at H
              exact absurd H (by simp)
            ·rw [if_neg c10] at H
             have c10b0 : decide ((wrap64 (a1 + x9_4)) < (a0.size : Int)) = false := decide_eq_false c10
             clear c10
             by_cases c20 : x9_4 > x7_2
             ·rw [if_pos c20] at H
              have c20b0 : decide (x7_2 < x9_4) = true := decide_eq_true c20
              clear c20
              have H' := Aside0.mk H
              clear H
              go_wp2
              repeat (go_quiet (fail);try go_wp2)
              go_roundg k4
              case measure=>have := HJ2.out;have := HK2.out;have := HJ5.out;have := HK4.out;omega
              case rel=>exact ⟨(x8_2),(x9_4),(wrap64 (x8_2 + 1)),q4_,q4_,q4_,H',⟨q84_⟩,q18_⟩
             ·rw [if_neg c20] at H
              have c20b0 : decide (x7_2 < x9_4) = false := decide_eq_false c20
              clear c20
              have H' := Aside0.mk H
              clear H
              go_wp2
              repeat (go_quiet (fail);try go_wp2)
              go_roundg k4
              case measure=>have := HJ2.out;have := HK2.out;have := HJ5.out;have := HK4.out;omega
              case rel=>exact ⟨(x6_2),(x7_2),(wrap64 (x8_2 + 1)),q4_,q4_,q4_,H',⟨q84_⟩,q18_⟩
           ·rw [if_neg c9] at H
            have c9b0 : decide (x9_4 < 64) = false := decide_eq_false c9
            clear c9
            by_cases c21 : x9_4 > x7_2
            ·rw [if_pos c21] at H
             have c21b0 : decide (x7_2 < x9_4) = true := decide_eq_true c21
             clear c21
             have H' := Aside0.mk H
             clear H
             go_wp2
             repeat (go_quiet (fail);try go_wp2)
             go_roundg k4
             case measure=>have := HJ2.out;have := HK2.out;have := HJ5.out;have := HK4.out;omega
             case rel=>exact ⟨(x8_2),(x9_4),(wrap64 (x8_2 + 1)),q4_,q4_,q4_,H',⟨q84_⟩,q18_⟩
            ·rw [if_neg c21] at H
             have c21b0 : decide (x7_2 < x9_4) = false := decide_eq_false c21
             clear c21
             have H' := Aside0.mk H
             clear H
             go_wp2
             repeat (go_quiet (fail);try go_wp2)
             go_roundg k4
             case measure=>have := HJ2.out;have := HK2.out;have := HJ5.out;have := HK4.out;omega
             case rel=>exact ⟨(x6_2),(x7_2),(wrap64 (x8_2 + 1)),q4_,q4_,q4_,H',⟨q84_⟩,q18_⟩
        ·replace c8 := Bool.eq_false_iff.mpr c8
         subst c8
         have H1 : (some (x6_2,x7_2)) = some (r1,r2) := by rw [if_neg (show ¬ (false = true) by decide)] at H;exact H
         clear H
         have H := H1
         clear H1
         simp only [Option.some.injEq,Prod.mk.injEq] at H
         obtain ⟨rfl,rfl⟩ := H
         go_wp2
         repeat (go_quiet (fail);try go_wp2)
         go_ret2
         exact ⟨q4_,q18_⟩

end Go.Proofs.Ythcjcmgdblhhfaa.PV

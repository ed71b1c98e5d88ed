/- The machine side of these statements: what each Go function computes as a plain function, and that its call computes just that. Written by a program of mine (wip/drive.py). No conditions. -/
import Derived.Test.YthcjcmgdblhhfaaPUx0
namespace Go.Proofs.Ythcjcmgdblhhfaa.PU
open Go.RowKit Go.Proofs.YthcjcmgdblhhfaaW.PrintWords Go.Proofs.YthcjcmgdblhhfaaW.PrintLast Go.Proofs.YthcjcmgdblhhfaaW.PrintMore
attribute [local go_sem] max2_int min2_int max_two min_two max_three min_three max_four min_four   -- for this text's walks alone
set_option linter.unusedVariables false
set_option linter.unusedSimpArgs false

/-! ### batonref03_Match: function 24 -/
mutual
def batonref03_Match.j0 : Nat → ByteArray → Int → Bool → Option (Int × Int)
 | 0,_,_,_=>none
 | k + 1,x0,x1,x17=>if x17 = true then (some (0,0)) else (batonref03_Match.l0 k x0 x1 0 0 1)
def batonref03_Match.l0 : Nat → ByteArray → Int → Int → Int → Int → Option (Int × Int)
 | 0,_,_,_,_,_=>none
 | k + 1,x0,x1,x6,x7,x8=>if x8 ≤ x1 then (batonref03_Match.j2 k x0 x1 x6 x7 x8 (decide (x8 ≤ 65535))) else (batonref03_Match.j2 k x0 x1 x6 x7 x8 false)
def batonref03_Match.j2 : Nat → ByteArray → Int → Int → Int → Int → Bool → Option (Int × Int)
 | 0,_,_,_,_,_,_=>none
 | k + 1,x0,x1,x6,x7,x8,x24=>if x24 = true then (batonref03_Match.l1 k x0 x1 x6 x7 x8 0) else (some (x6,x7))
def batonref03_Match.l1 : Nat → ByteArray → Int → Int → Int → Int → Int → Option (Int × Int)
 | 0,_,_,_,_,_,_=>none
 | k + 1,x0,x1,x6,x7,x8,x9=>if x9 < 64 then (if (wrap64 (x1 + x9)) < (x0.size : Int) then (if 0 ≤ (wrap64 (x1 + x9)) then (if 0 ≤ (wrap64 ((wrap64 (x1 + x9)) - x8)) then (if (wrap64 ((wrap64 (x1 + x9)) - x8)) < (x0.size : Int) then (if (bt x0 (wrap64 (x1 + x9))) = (bt x0 (wrap64 ((wrap64 (x1 + x9)) - x8))) then (batonref03_Match.l1 k x0 x1 x6 x7 x8 (wrap64 (x9 + 1))) else (if x9 > x7 then (batonref03_Match.l0 k x0 x1 x8 x9 (wrap64 (x8 + 1))) else (batonref03_Match.l0 k x0 x1 x6 x7 (wrap64 (x8 + 1))))) else (none)) else (none)) else (none)) else (if x9 > x7 then (batonref03_Match.l0 k x0 x1 x8 x9 (wrap64 (x8 + 1))) else (batonref03_Match.l0 k x0 x1 x6 x7 (wrap64 (x8 + 1))))) else (if x9 > x7 then (batonref03_Match.l0 k x0 x1 x8 x9 (wrap64 (x8 + 1))) else (batonref03_Match.l0 k x0 x1 x6 x7 (wrap64 (x8 + 1))))
end
def batonref03_Match.f (k : Nat) (a0 : ByteArray) (a1 : Int) : Option (Int × Int) := if a1 < 0 then (batonref03_Match.j0 k a0 a1 true) else (batonref03_Match.j0 k a0 a1 (decide (a1 ≥ (a0.size : Int))))
theorem batonref03_Match.mono_l : ∀ k, (∀ y0 y1 y2, LeO (batonref03_Match.j0 k y0 y1 y2) (batonref03_Match.j0 (k + 1) y0 y1 y2)) ∧ (∀ y0 y1 y2 y3 y4, LeO (batonref03_Match.l0 k y0 y1 y2 y3 y4) (batonref03_Match.l0 (k + 1) y0 y1 y2 y3 y4)) ∧ (∀ y0 y1 y2 y3 y4 y5, LeO (batonref03_Match.j2 k y0 y1 y2 y3 y4 y5) (batonref03_Match.j2 (k + 1) y0 y1 y2 y3 y4 y5)) ∧ (∀ y0 y1 y2 y3 y4 y5, LeO (batonref03_Match.l1 k y0 y1 y2 y3 y4 y5) (batonref03_Match.l1 (k + 1) y0 y1 y2 y3 y4 y5))
 | 0=>⟨fun _ _ _ r h=>by simp [batonref03_Match.j0] at h,fun _ _ _ _ _ r h=>by simp [batonref03_Match.l0] at h,fun _ _ _ _ _ _ r h=>by simp [batonref03_Match.j2] at h,fun _ _ _ _ _ _ r h=>by simp [batonref03_Match.l1] at h⟩
 | k + 1=>by
  obtain ⟨ih0,ih1,ih2,ih3⟩ := batonref03_Match.mono_l k
  refine ⟨?_,?_,?_,?_⟩
  ·intro y0 y1 y2
   unfold batonref03_Match.j0
   repeat' first
   | (with_reducible exact ih0 _ _ _)
   | (with_reducible exact ih1 _ _ _ _ _)
   | (with_reducible exact ih2 _ _ _ _ _ _)
   | (with_reducible exact ih3 _ _ _ _ _ _)
   | (with_reducible exact LeO.refl _)
   | (with_reducible exact LeO.none _)
   | (with_reducible refine LeO.ite ?_ ?_)
   | (with_reducible refine LeO.bind ?_ (fun _=>?_))
   | exact ih0 _ _ _
   | exact ih1 _ _ _ _ _
   | exact ih2 _ _ _ _ _ _
   | exact ih3 _ _ _ _ _ _
   | exact LeO.none _
   | refine LeO.ite ?_ ?_
   | refine LeO.bind ?_ (fun _=>?_)
  ·intro y0 y1 y2 y3 y4
   unfold batonref03_Match.l0
   repeat' first
   | (with_reducible exact ih0 _ _ _)
   | (with_reducible exact ih1 _ _ _ _ _)
   | (with_reducible exact ih2 _ _ _ _ _ _)
   | (with_reducible exact ih3 _ _ _ _ _ _)
   | (with_reducible exact LeO.refl _)
   | (with_reducible exact LeO.none _)
   | (with_reducible refine LeO.ite ?_ ?_)
   | (with_reducible refine LeO.bind ?_ (fun _=>?_))
   | exact ih0 _ _ _
   | exact ih1 _ _ _ _ _
   | exact ih2 _ _ _ _ _ _
   | exact ih3 _ _ _ _ _ _
   | exact LeO.none _
   | refine LeO.ite ?_ ?_
   | refine LeO.bind ?_ (fun _=>?_)
  ·intro y0 y1 y2 y3 y4 y5
   unfold batonref03_Match.j2
   repeat' first
   | (with_reducible exact ih0 _ _ _)
   | (with_reducible exact ih1 _ _ _ _ _)
   | (with_reducible exact ih2 _ _ _ _ _ _)
   | (with_reducible exact ih3 _ _ _ _ _ _)
   | (with_reducible exact LeO.refl _)
   | (with_reducible exact LeO.none _)
   | (with_reducible refine LeO.ite ?_ ?_)
   | (with_reducible refine LeO.bind ?_ (fun _=>?_))
   | exact ih0 _ _ _
   | exact ih1 _ _ _ _ _
   | exact ih2 _ _ _ _ _ _
   | exact ih3 _ _ _ _ _ _
   | exact LeO.none _
   | refine LeO.ite ?_ ?_
   | refine LeO.bind ?_ (fun _=>?_)
  ·intro y0 y1 y2 y3 y4 y5
   unfold batonref03_Match.l1
   repeat' first
   | (with_reducible exact ih0 _ _ _)
   | (with_reducible exact ih1 _ _ _ _ _)
   | (with_reducible exact ih2 _ _ _ _ _ _)
   | (with_reducible exact ih3 _ _ _ _ _ _)
   | (with_reducible exact LeO.refl _)
   | (with_reducible exact LeO.none _)
   | (with_reducible refine LeO.ite ?_ ?_)
   | (with_reducible refine LeO.bind ?_ (fun _=>?_))
   | exact ih0 _ _ _
   | exact ih1 _ _ _ _ _
   | exact ih2 _ _ _ _ _ _
   | exact ih3 _ _ _ _ _ _
   | exact LeO.none _
   | refine LeO.ite ?_ ?_
   | refine LeO.bind ?_ (fun _=>?_)
theorem batonref03_Match.mono : ∀ a0 a1 k, LeO (batonref03_Match.f k a0 a1) (batonref03_Match.f (k + 1) a0 a1) := by
 intro a0 a1 k
 obtain ⟨ih0,ih1,ih2,ih3⟩ := batonref03_Match.mono_l k
 unfold batonref03_Match.f
 repeat' first
   | (with_reducible exact ih0 _ _ _)
   | (with_reducible exact ih1 _ _ _ _ _)
   | (with_reducible exact ih2 _ _ _ _ _ _)
   | (with_reducible exact ih3 _ _ _ _ _ _)
   | (with_reducible exact LeO.refl _)
   | (with_reducible exact LeO.none _)
   | (with_reducible refine LeO.ite ?_ ?_)
   | (with_reducible refine LeO.bind ?_ (fun _=>?_))
   | exact ih0 _ _ _
   | exact ih1 _ _ _ _ _
   | exact ih2 _ _ _ _ _ _
   | exact ih3 _ _ _ _ _ _
   | exact LeO.none _
   | refine LeO.ite ?_ ?_
   | refine LeO.bind ?_ (fun _=>?_)
set_option maxHeartbeats 8000000 in
set_option maxRecDepth 100000 in
theorem batonref03_Match.calls (k : Nat) (a0 : ByteArray) (a1 : Int) (r1 : Int) (r2 : Int) (w : World) (h : batonref03_Match.f k a0 a1 = some (r1, r2)) :
  Calls Try.prog 24 #[.string a0,.int .i64 a1] w fun e w'=>e = .returned (.tuple #[.int .i64 r1,.int .i64 r2]) ∧ Drawn0 w w' := by
 have H : (if a1 < 0 then (batonref03_Match.j0 k a0 a1 true) else (batonref03_Match.j0 k a0 a1 (decide (a1 ≥ (a0.size : Int))))) = some (r1,r2) := h
 clear h
 have HC3 := Aside0.mk H
 clear H
 go_enter Try.func24,Try.ntmps24
 go_upto_region 1 with (fail)
 repeat (go_quiet (fail);go_upto_region 1 with (fail))
 go_cut [17] (fun v17 wc=>∃ (kq : Nat) (x17_2 : Bool),v17 = .bool x17_2 ∧ Aside0 (batonref03_Match.j0 kq a0 a1 x17_2 = some (r1,r2)) ∧ Aside0 (kq ≤ k) ∧ Drawn0 w wc)
 case first =>
  have H := HC3.out
  clear HC3
  by_cases c4 : a1 < 0
  ·rw [if_pos c4] at H
   have c4b0 : decide (a1 < 0) = true := decide_eq_true c4
   clear c4
   (first|rw [c4b0]|(simp only [i64_w,i32_w];rw [c4b0])|skip)
   have H' := Aside0.mk H
   clear H
   go_wp2
   repeat (go_quiet (fail);try go_wp2)
   go_meet
   case rel=>exact ⟨_,(true),(by first|rfl|(simp;done)|(simp [*];done)),H',⟨by first|omega|exact Nat.le_refl _⟩,by repeat (first|exact Drawn0.refl _|apply Drawn0.step)⟩
  ·rw [if_neg c4] at H
   have c4b0 : decide (a1 < 0) = false := decide_eq_false c4
   clear c4
   (first|rw [c4b0]|(simp only [i64_w,i32_w];rw [c4b0])|skip)
   have H' := Aside0.mk H
   clear H
   go_wp2
   repeat (go_quiet (fail);try go_wp2)
   go_meet
   case rel=>exact ⟨_,(decide (a1 ≥ (a0.size : Int))),(by first|rfl|(simp;done)|(simp [*];done)),H',⟨by first|omega|exact Nat.le_refl _⟩,by repeat (first|exact Drawn0.refl _|apply Drawn0.step)⟩
 case rest =>
  clear HC3
  try clear c2
  try clear p2
  try clear c4
  try clear c4b0
  obtain ⟨kq,x17_2,rfl,HA,HJ2,⟨mc2,rfl⟩⟩ := hcut
  cases kq with
  | zero=>exact absurd HA.out (by simp [batonref03_Match.j0])
  | succ kj2 =>
   have H := HA.out
   clear HA
   simp only [batonref03_Match.j0] at H
   by_cases c5 : x17_2 = true
   ·subst c5
    have H1 : (some (0,0)) = some (r1,r2) := by rw [if_pos rfl] at H;exact H
    clear H
    have H := H1
    clear H1
    simp only [Option.some.injEq,Prod.mk.injEq] at H
    obtain ⟨rfl,rfl⟩ := H
    go_wp2
    repeat (go_quiet (fail);try go_wp2)
    go_ret2
    exact ⟨by first|rfl|(simp;done)|(simp [*];done),by repeat (first|exact Drawn0.refl _|apply Drawn0.step)⟩
   ·replace c5 := Bool.eq_false_iff.mpr c5
    subst c5
    have H1 : (batonref03_Match.l0 kj2 a0 a1 0 0 1) = some (r1,r2) := by rw [if_neg (show ¬ (false = true) by decide)] at H;exact H
    clear H
    have H := H1
    clear H1
    have H' := Aside0.mk H
    clear H
    go_wp2
    repeat (go_quiet (fail);try go_wp2)
    go_loopg [6,7,8] kj2 (fun kq v6 v7 v8 w'=>∃ (x6_2 : Int) (x7_2 : Int) (x8_2 : Int),v6 = .int .i64 x6_2 ∧ v7 = .int .i64 x7_2 ∧ v8 = .int .i64 x8_2 ∧ Aside0 (batonref03_Match.l0 kq a0 a1 x6_2 x7_2 x8_2 = some (r1,r2)) ∧ Aside0 (kq ≤ kj2) ∧ Drawn0 w w')
    case atStart=>exact ⟨(0),(0),(1),(by first|rfl|(simp;done)|(simp [*];done)),(by first|rfl|(simp;done)|(simp [*];done)),(by first|rfl|(simp;done)|(simp [*];done)),H',⟨Nat.le_refl _⟩,by repeat (first|exact Drawn0.refl _|apply Drawn0.step)⟩
    case round =>
     clear H'
     try clear c2
     try clear p2
     try clear c4
     try clear c4b0
     try clear c5
     try clear p2
     obtain ⟨x6_2,x7_2,x8_2,rfl,rfl,rfl,HA,HK2,⟨m2,rfl⟩⟩ := hrel
     cases gk with
     | zero=>exact absurd HA.out (by simp [batonref03_Match.l0])
     | succ k2 =>
      have H := HA.out
      clear HA
      simp only [batonref03_Match.l0] at H
      have HC6 := Aside0.mk H
      clear H
      go_upto_region 5 with (fail)
      repeat (go_quiet (fail);go_upto_region 5 with (fail))
      go_cut [24] (fun v24 wc=>∃ (kq : Nat) (x24_5 : Bool),v24 = .bool x24_5 ∧ Aside0 (batonref03_Match.j2 kq a0 a1 x6_2 x7_2 x8_2 x24_5 = some (r1,r2)) ∧ Aside0 (kq ≤ k2) ∧ Drawn0 w wc)
      case first =>
       have H := HC6.out
       clear HC6
       by_cases c7 : x8_2 ≤ a1
       ·rw [if_pos c7] at H
        have c7b0 : decide (x8_2 ≤ a1) = true := decide_eq_true c7
        clear c7
        (first|rw [c7b0]|(simp only [i64_w,i32_w];rw [c7b0])|skip)
        have H' := Aside0.mk H
        clear H
        go_wp2
        repeat (go_quiet (fail);try go_wp2)
        go_meet
        case rel=>exact ⟨_,(decide (x8_2 ≤ 65535)),(by first|rfl|(simp;done)|(simp [*];done)),H',⟨by have := HJ2.out;have := HK2.out;first|omega|exact Nat.le_refl _⟩,by repeat (first|exact Drawn0.refl _|apply Drawn0.step)⟩
       ·rw [if_neg c7] at H
        have c7b0 : decide (x8_2 ≤ a1) = false := decide_eq_false c7
        clear c7
        (first|rw [c7b0]|(simp only [i64_w,i32_w];rw [c7b0])|skip)
        have H' := Aside0.mk H
        clear H
        go_wp2
        repeat (go_quiet (fail);try go_wp2)
        go_meet
        case rel=>exact ⟨_,(false),(by first|rfl|(simp;done)|(simp [*];done)),H',⟨by have := HJ2.out;have := HK2.out;first|omega|exact Nat.le_refl _⟩,by repeat (first|exact Drawn0.refl _|apply Drawn0.step)⟩
      case rest =>
       clear HC6
       try clear c2
       try clear p2
       try clear c4
       try clear c4b0
       try clear c5
       try clear c7
       try clear c7b0
       try clear p2
       obtain ⟨kq,x24_5,rfl,HA,HJ5,⟨mc5,rfl⟩⟩ := hcut
       cases kq with
       | zero=>exact absurd HA.out (by simp [batonref03_Match.j2])
       | succ kj5 =>
        have H := HA.out
        clear HA
        simp only [batonref03_Match.j2] at H
        by_cases c8 : x24_5 = true
        ·subst c8
         have H1 : (batonref03_Match.l1 kj5 a0 a1 x6_2 x7_2 x8_2 0) = some (r1,r2) := by rw [if_pos rfl] at H;exact H
         clear H
         have H := H1
         clear H1
         have H' := Aside0.mk H
         clear H
         go_wp2
         repeat (go_quiet (fail);try go_wp2)
         go_loopg [9] kj5 (fun kq v9 w'=>∃ (x9_4 : Int),v9 = .int .i64 x9_4 ∧ Aside0 (batonref03_Match.l1 kq a0 a1 x6_2 x7_2 x8_2 x9_4 = some (r1,r2)) ∧ Aside0 (kq ≤ kj5) ∧ Drawn0 w w')
         case atStart=>exact ⟨(0),(by first|rfl|(simp;done)|(simp [*];done)),H',⟨Nat.le_refl _⟩,by repeat (first|exact Drawn0.refl _|apply Drawn0.step)⟩
         case round =>
          clear H'
          try clear c2
          try clear p2
          try clear c4
          try clear c4b0
          try clear c5
          try clear c7
          try clear c7b0
          try clear c8
          try clear p2
          obtain ⟨x9_4,rfl,HA,HK4,⟨m4,rfl⟩⟩ := hrel
          cases gk with
          | zero=>exact absurd HA.out (by simp [batonref03_Match.l1])
          | succ k4 =>
           have H := HA.out
           clear HA
           simp only [batonref03_Match.l1] at H
           by_cases c9 : x9_4 < 64
           ·rw [if_pos c9] at H
            have c9b0 : decide (x9_4 < 64) = true := decide_eq_true c9
            clear c9
            by_cases c10 : (wrap64 (a1 + x9_4)) < (a0.size : Int)
            ·rw [if_pos c10] at H
             have c10b0 : decide ((wrap64 (a1 + x9_4)) < (a0.size : Int)) = true := decide_eq_true c10
             clear c10
             obtain ⟨ji11,hji11⟩ : ∃ j_ : Int,(wrap64 (a1 + x9_4)) = j_ := ⟨_,rfl⟩
             replace H : (if 0 ≤ (ji11) then (if 0 ≤ (wrap64 ((ji11) - x8_2)) then (if (wrap64 ((ji11) - x8_2)) < (a0.size : Int) then (if (bt a0 (ji11)) = (bt a0 (wrap64 ((ji11) - x8_2))) then (batonref03_Match.l1 k4 a0 a1 x6_2 x7_2 x8_2 (wrap64 (x9_4 + 1))) else (if x9_4 > x7_2 then (batonref03_Match.l0 k4 a0 a1 x8_2 x9_4 (wrap64 (x8_2 + 1))) else (batonref03_Match.l0 k4 a0 a1 x6_2 x7_2 (wrap64 (x8_2 + 1))))) else (none)) else (none)) else (none)) = some (r1,r2) := by first|(rw [hji11] at H;exact H)|(simp only [hji11] at H ⊢;exact H)
             (try rw [hji11] at c10b0)
             have hji11w : (IntKind.i64.wrap (a1 + x9_4)) = ji11 := (i64_w _).trans hji11
             by_cases c12 : 0 ≤ (ji11)
             ·rw [if_pos c12] at H
              have c12b0 : decide (0 ≤ (ji11)) = true := decide_eq_true c12
              clear c12
              obtain ⟨ji14,hji14⟩ : ∃ j_ : Int,(wrap64 ((ji11) - x8_2)) = j_ := ⟨_,rfl⟩
              replace H : (if 0 ≤ (ji14) then (if (ji14) < (a0.size : Int) then (if (bt a0 (ji11)) = (bt a0 (ji14)) then (batonref03_Match.l1 k4 a0 a1 x6_2 x7_2 x8_2 (wrap64 (x9_4 + 1))) else (if x9_4 > x7_2 then (batonref03_Match.l0 k4 a0 a1 x8_2 x9_4 (wrap64 (x8_2 + 1))) else (batonref03_Match.l0 k4 a0 a1 x6_2 x7_2 (wrap64 (x8_2 + 1))))) else (none)) else (none)) = some (r1,r2) := by first|(rw [hji14] at H;exact H)|(simp only [hji14] at H ⊢;exact H)
              have hji14w : (IntKind.i64.wrap ((ji11) - x8_2)) = ji14 := (i64_w _).trans hji14
              by_cases c15 : 0 ≤ (ji14)
              ·rw [if_pos c15] at H
               have c15b0 : decide (0 ≤ (ji14)) = true := decide_eq_true c15
               clear c15
               by_cases c16 : (ji14) < (a0.size : Int)
               ·rw [if_pos c16] at H
                have c16b0 : decide ((ji14) < (a0.size : Int)) = true := decide_eq_true c16
                clear c16
                by_cases c18 : (bt a0 (ji11)) = (bt a0 (ji14))
                ·rw [if_pos c18] at H
                 have c18b0 : ((bt a0 (ji11)) == (bt a0 (ji14))) = true := beq_iff_eq.mpr c18
                 have c18b1 : ((bt a0 (ji11)) != (bt a0 (ji14))) = false := bne_eq_false_iff_eq.mpr c18
                 clear c18
                 have H' := Aside0.mk H
                 clear H
                 have p13 : 0 ≤ ((ji11) : Int) := of_decide_eq_true (by first|(with_reducible assumption)|assumption)
                 have q13 : (ji11) < (a0.size : Int) := of_decide_eq_true (by first|(with_reducible assumption)|assumption)
                 have hx13 := bt_at a0 (ji11)
                 replace p13 := eq_true p13
                 replace q13 := eq_true q13
                 have p17 : 0 ≤ ((ji14) : Int) := of_decide_eq_true (by first|(with_reducible assumption)|assumption)
                 have q17 : (ji14) < (a0.size : Int) := of_decide_eq_true (by first|(with_reducible assumption)|assumption)
                 have hx17 := bt_at a0 (ji14)
                 replace p17 := eq_true p17
                 replace q17 := eq_true q17
                 go_wp2
                 repeat (go_quiet (fail);try go_wp2)
                 go_roundg k4
                 case measure=>have := HJ2.out;have := HK2.out;have := HJ5.out;have := HK4.out;omega
                 case rel=>exact ⟨(wrap64 (x9_4 + 1)),(by first|rfl|(simp;done)|(simp [*];done)),H',⟨by have := HJ2.out;have := HK2.out;have := HJ5.out;have := HK4.out;omega⟩,by repeat (first|exact Drawn0.refl _|apply Drawn0.step)⟩
                ·rw [if_neg c18] at H
                 have c18b0 : ((bt a0 (ji11)) == (bt a0 (ji14))) = false := beq_eq_false_iff_ne.mpr c18
                 have c18b1 : ((bt a0 (ji11)) != (bt a0 (ji14))) = true := bne_iff_ne.mpr c18
                 by_cases c19 : x9_4 > x7_2
                 ·rw [if_pos c19] at H
                  have c19b0 : decide (x7_2 < x9_4) = true := decide_eq_true c19
                  clear c19
                  have H' := Aside0.mk H
                  clear H
                  have p13 : 0 ≤ ((ji11) : Int) := of_decide_eq_true (by first|(with_reducible assumption)|assumption)
                  have q13 : (ji11) < (a0.size : Int) := of_decide_eq_true (by first|(with_reducible assumption)|assumption)
                  have hx13 := bt_at a0 (ji11)
                  replace p13 := eq_true p13
                  replace q13 := eq_true q13
                  have p17 : 0 ≤ ((ji14) : Int) := of_decide_eq_true (by first|(with_reducible assumption)|assumption)
                  have q17 : (ji14) < (a0.size : Int) := of_decide_eq_true (by first|(with_reducible assumption)|assumption)
                  have hx17 := bt_at a0 (ji14)
                  replace p17 := eq_true p17
                  replace q17 := eq_true q17
                  go_wp2
                  repeat (go_quiet (fail);try go_wp2)
                  go_roundg k4
                  case measure=>have := HJ2.out;have := HK2.out;have := HJ5.out;have := HK4.out;omega
                  case rel=>exact ⟨(x8_2),(x9_4),(wrap64 (x8_2 + 1)),(by first|rfl|(simp;done)|(simp [*];done)),(by first|rfl|(simp;done)|(simp [*];done)),(by first|rfl|(simp;done)|(simp [*];done)),H',⟨by have := HJ2.out;have := HK2.out;have := HJ5.out;have := HK4.out;omega⟩,by repeat (first|exact Drawn0.refl _|apply Drawn0.step)⟩
                 ·rw [if_neg c19] at H
                  have c19b0 : decide (x7_2 < x9_4) = false := decide_eq_false c19
                  clear c19
                  have H' := Aside0.mk H
                  clear H
                  have p13 : 0 ≤ ((ji11) : Int) := of_decide_eq_true (by first|(with_reducible assumption)|assumption)
                  have q13 : (ji11) < (a0.size : Int) := of_decide_eq_true (by first|(with_reducible assumption)|assumption)
                  have hx13 := bt_at a0 (ji11)
                  replace p13 := eq_true p13
                  replace q13 := eq_true q13
                  have p17 : 0 ≤ ((ji14) : Int) := of_decide_eq_true (by first|(with_reducible assumption)|assumption)
                  have q17 : (ji14) < (a0.size : Int) := of_decide_eq_true (by first|(with_reducible assumption)|assumption)
                  have hx17 := bt_at a0 (ji14)
                  replace p17 := eq_true p17
                  replace q17 := eq_true q17
                  go_wp2
                  repeat (go_quiet (fail);try go_wp2)
                  go_roundg k4
                  case measure=>have := HJ2.out;have := HK2.out;have := HJ5.out;have := HK4.out;omega
                  case rel=>exact ⟨(x6_2),(x7_2),(wrap64 (x8_2 + 1)),(by first|rfl|(simp;done)|(simp [*];done)),(by first|rfl|(simp;done)|(simp [*];done)),(by first|rfl|(simp;done)|(simp [*];done)),H',⟨by have := HJ2.out;have := HK2.out;have := HJ5.out;have := HK4.out;omega⟩,by repeat (first|exact Drawn0.refl _|apply Drawn0.step)⟩
               ·rw [if_neg c16] at H
                exact absurd H (by simp)
              ·rw [if_neg c15] at H
               exact absurd H (by simp)
             ·rw [if_neg c12] at H
              exact absurd H (by simp)
            ·rw [if_neg c10] at H
             have c10b0 : decide ((wrap64 (a1 + x9_4)) < (a0.size : Int)) = false := decide_eq_false c10
             clear c10
             by_cases c20 : x9_4 > x7_2
             ·rw [if_pos c20] at H
              have c20b0 : decide (x7_2 < x9_4) = true := decide_eq_true c20
              clear c20
              have H' := Aside0.mk H
              clear H
              go_wp2
              repeat (go_quiet (fail);try go_wp2)
              go_roundg k4
              case measure=>have := HJ2.out;have := HK2.out;have := HJ5.out;have := HK4.out;omega
              case rel=>exact ⟨(x8_2),(x9_4),(wrap64 (x8_2 + 1)),(by first|rfl|(simp;done)|(simp [*];done)),(by first|rfl|(simp;done)|(simp [*];done)),(by first|rfl|(simp;done)|(simp [*];done)),H',⟨by have := HJ2.out;have := HK2.out;have := HJ5.out;have := HK4.out;omega⟩,by repeat (first|exact Drawn0.refl _|apply Drawn0.step)⟩
             ·rw [if_neg c20] at H
              have c20b0 : decide (x7_2 < x9_4) = false := decide_eq_false c20
              clear c20
              have H' := Aside0.mk H
              clear H
              go_wp2
              repeat (go_quiet (fail);try go_wp2)
              go_roundg k4
              case measure=>have := HJ2.out;have := HK2.out;have := HJ5.out;have := HK4.out;omega
              case rel=>exact ⟨(x6_2),(x7_2),(wrap64 (x8_2 + 1)),(by first|rfl|(simp;done)|(simp [*];done)),(by first|rfl|(simp;done)|(simp [*];done)),(by first|rfl|(simp;done)|(simp [*];done)),H',⟨by have := HJ2.out;have := HK2.out;have := HJ5.out;have := HK4.out;omega⟩,by repeat (first|exact Drawn0.refl _|apply Drawn0.step)⟩
           ·rw [if_neg c9] at H
            have c9b0 : decide (x9_4 < 64) = false := decide_eq_false c9
            clear c9
            by_cases c21 : x9_4 > x7_2
            ·rw [if_pos c21] at H
             have c21b0 : decide (x7_2 < x9_4) = true := decide_eq_true c21
             clear c21
             have H' := Aside0.mk H
             clear H
             go_wp2
             repeat (go_quiet (fail);try go_wp2)
             go_roundg k4
             case measure=>have := HJ2.out;have := HK2.out;have := HJ5.out;have := HK4.out;omega
             case rel=>exact ⟨(x8_2),(x9_4),(wrap64 (x8_2 + 1)),(by first|rfl|(simp;done)|(simp [*];done)),(by first|rfl|(simp;done)|(simp [*];done)),(by first|rfl|(simp;done)|(simp [*];done)),H',⟨by have := HJ2.out;have := HK2.out;have := HJ5.out;have := HK4.out;omega⟩,by repeat (first|exact Drawn0.refl _|apply Drawn0.step)⟩
            ·rw [if_neg c21] at H
             have c21b0 : decide (x7_2 < x9_4) = false := decide_eq_false c21
             clear c21
             have H' := Aside0.mk H
             clear H
             go_wp2
             repeat (go_quiet (fail);try go_wp2)
             go_roundg k4
             case measure=>have := HJ2.out;have := HK2.out;have := HJ5.out;have := HK4.out;omega
             case rel=>exact ⟨(x6_2),(x7_2),(wrap64 (x8_2 + 1)),(by first|rfl|(simp;done)|(simp [*];done)),(by first|rfl|(simp;done)|(simp [*];done)),(by first|rfl|(simp;done)|(simp [*];done)),H',⟨by have := HJ2.out;have := HK2.out;have := HJ5.out;have := HK4.out;omega⟩,by repeat (first|exact Drawn0.refl _|apply Drawn0.step)⟩
        ·replace c8 := Bool.eq_false_iff.mpr c8
         subst c8
         have H1 : (some (x6_2,x7_2)) = some (r1,r2) := by rw [if_neg (show ¬ (false = true) by decide)] at H;exact H
         clear H
         have H := H1
         clear H1
         simp only [Option.some.injEq,Prod.mk.injEq] at H
         obtain ⟨rfl,rfl⟩ := H
         go_wp2
         repeat (go_quiet (fail);try go_wp2)
         go_ret2
         exact ⟨by first|rfl|(simp;done)|(simp [*];done),by repeat (first|exact Drawn0.refl _|apply Drawn0.step)⟩

/-! ### batonref03_Pack: function 25 -/
def batonref03_Pack.l0 : Nat → ByteArray → List (S72) → Int → Int → Option ((List (S72)) × Int)
 | 0,_,_,_,_=>none
 | k + 1,x0,x4,x5,x6=>if x6 < (x0.size : Int) then ((batonref03_Match.f k x0 x6).bind fun bt297=>(if bt297.2 < 4 then (batonref03_Pack.l0 k x0 x4 x5 (wrap64 (x6 + 1))) else (if x6 > x5 then (if 0 ≤ x5 then (if x5 ≤ x6 then (if x6 ≤ (x0.size : Int) then (if x4.length < 3518437208883 then ((some (x4 ++ [(⟨false,x0.extract (x5 : Int).toNat (x6 : Int).toNat,0,0⟩ : S72)] : List (S72))).bind fun y299=>(if y299.length < 3518437208883 then (batonref03_Pack.l0 k x0 (y299 ++ [(⟨true,(⟨#[]⟩ : ByteArray),bt297.1,bt297.2⟩ : S72)]) (wrap64 (x6 + bt297.2)) (wrap64 (x6 + bt297.2))) else (none))) else (none)) else (none)) else (none)) else (none)) else (if x4.length < 3518437208883 then (batonref03_Pack.l0 k x0 (x4 ++ [(⟨true,(⟨#[]⟩ : ByteArray),bt297.1,bt297.2⟩ : S72)]) (wrap64 (x6 + bt297.2)) (wrap64 (x6 + bt297.2))) else (none))))) else (if x6 > x5 then (if 0 ≤ x5 then (if x5 ≤ (x0.size : Int) then (if x4.length < 3518437208883 then (some ((x4 ++ [(⟨false,x0.extract (x5 : Int).toNat x0.size,0,0⟩ : S72)]),0)) else (none)) else (none)) else (none)) else (some (x4,0)))
def batonref03_Pack.f (k : Nat) (a0 : ByteArray) : Option ((List (S72)) × Int) := if (a0.size : Int) > 65536 then (some (([] : List (S72)), 40)) else (batonref03_Pack.l0 k a0 ([] : List (S72)) 0 0)
theorem batonref03_Pack.mono_l : ∀ k, (∀ y0 y1 y2 y3, LeO (batonref03_Pack.l0 k y0 y1 y2 y3) (batonref03_Pack.l0 (k + 1) y0 y1 y2 y3))
 | 0=>fun _ _ _ _ r h=>by simp [batonref03_Pack.l0] at h
 | k + 1=>by
  have ih0 := batonref03_Pack.mono_l k
  ·intro y0 y1 y2 y3
   unfold batonref03_Pack.l0
   repeat' first
   | (with_reducible exact ih0 _ _ _ _)
   | (with_reducible exact batonref03_Match.mono _ _ _)
   | (with_reducible exact LeO.refl _)
   | (with_reducible exact LeO.none _)
   | (with_reducible refine LeO.ite ?_ ?_)
   | (with_reducible refine LeO.bind ?_ (fun _=>?_))
   | exact ih0 _ _ _ _
   | exact batonref03_Match.mono _ _ _
   | exact LeO.none _
   | refine LeO.ite ?_ ?_
   | refine LeO.bind ?_ (fun _=>?_)
theorem batonref03_Pack.mono : ∀ a0 k, LeO (batonref03_Pack.f k a0) (batonref03_Pack.f (k + 1) a0) := by
 intro a0 k
 have ih0 := batonref03_Pack.mono_l k
 unfold batonref03_Pack.f
 repeat' first
   | (with_reducible exact ih0 _ _ _ _)
   | (with_reducible exact batonref03_Match.mono _ _ _)
   | (with_reducible exact LeO.refl _)
   | (with_reducible exact LeO.none _)
   | (with_reducible refine LeO.ite ?_ ?_)
   | (with_reducible refine LeO.bind ?_ (fun _=>?_))
   | exact ih0 _ _ _ _
   | exact batonref03_Match.mono _ _ _
   | exact LeO.none _
   | refine LeO.ite ?_ ?_
   | refine LeO.bind ?_ (fun _=>?_)
set_option maxHeartbeats 8000000 in
set_option maxRecDepth 100000 in
theorem batonref03_Pack.calls (k : Nat) (a0 : ByteArray) (r1 : List (S72)) (r2 : Int) (w : World) (h : batonref03_Pack.f k a0 = some (r1, r2)) :
  Calls Try.prog 25 #[.string a0] w fun e w'=>∃ v0_ : Value,e = .returned (.tuple #[v0_,.int .i64 r2]) ∧ Kd.R k72 72 w' w.heap.size (fun _=>True) v0_ r1 ∧ Below w.heap.size w w' := by
 have hu72 := Try.underlying72
 have HB := Aside0.mk (Below.refl w.heap.size w)
 have H : (if (a0.size : Int) > 65536 then (some (([] : List (S72)),40)) else (batonref03_Pack.l0 k a0 ([] : List (S72)) 0 0)) = some (r1,r2) := h
 clear h
 by_cases c2 : (a0.size : Int) > 65536
 ·rw [if_pos c2] at H
  have c2b0 : decide (65536 < (a0.size : Int)) = true := decide_eq_true c2
  have c2b1 : decide (65536 < a0.size) = true := decide_eq_true (by omega)
  clear c2
  simp only [Option.some.injEq,Prod.mk.injEq] at H
  obtain ⟨rfl,rfl⟩ := H
  go_enter Try.func25,Try.ntmps25
  go_wp2
  go_ret2
  exact ⟨_,by first|rfl|(simp [errW_none,errW_some] <;> rfl)|(simp [*,errW_none,errW_some] <;> rfl),by first|exact Kd.R_nil _ _ _ _ _|exact Kd.N_nil _ _ _ _ _|exact Kd.V_nil _ _ _ _ _|exact Kd.Q_nil _ _ _ _ _|exact Kd.S_nil _ _ _ _ _,bl_⟩
 ·rw [if_neg c2] at H
  have c2b0 : decide (65536 < (a0.size : Int)) = false := decide_eq_false c2
  have c2b1 : decide (65536 < a0.size) = false := decide_eq_false (by omega)
  clear c2
  have H' := Aside0.mk H
  clear H
  go_enter Try.func25,Try.ntmps25
  go_wp2
  go_loopg [4,5,6] k (fun kq v4 v5 v6 w'=>∃ (x4_1 : List (S72)) (x5_1 : Int) (x6_1 : Int),v5 = .int .i64 x5_1 ∧ v6 = .int .i64 x6_1 ∧ Aside0 (batonref03_Pack.l0 kq a0 x4_1 x5_1 x6_1 = some (r1,r2)) ∧ Aside0 (kq ≤ k) ∧ Aside0 (Kd.R k72 72 w' w.heap.size (fun _=>True) v4 x4_1) ∧ Aside0 (Below w.heap.size w w'))
  case atStart=>exact ⟨(([] : List (S72))),(0),(0),(by first|rfl|(simp;done)|(simp [*];done)),(by first|rfl|(simp;done)|(simp [*];done)),H',⟨Nat.le_refl _⟩,⟨by first|exact Kd.R_nil _ _ _ _ _|exact Kd.N_nil _ _ _ _ _|exact Kd.V_nil _ _ _ _ _|exact Kd.Q_nil _ _ _ _ _|exact Kd.S_nil _ _ _ _ _⟩,⟨bl_⟩⟩
  case round =>
   clear H'
   try clear c2
   try clear c2b0
   try clear c2b1
   try clear p2
   obtain ⟨x4_1,x5_1,x6_1,rfl,rfl,HA,HK1,HO_4,HB⟩ := hrel
   cases gk with
   | zero=>exact absurd HA.out (by simp [batonref03_Pack.l0])
   | succ k1 =>
    have H := HA.out
    clear HA
    simp only [batonref03_Pack.l0] at H
    by_cases c3 : x6_1 < (a0.size : Int)
    ·rw [if_pos c3] at H
     have c3b0 : decide (x6_1 < (a0.size : Int)) = true := decide_eq_true c3
     clear c3
     replace H := Option.bind_eq_some_iff.mp H
     obtain ⟨⟨t297,t298⟩,A40,H⟩ := H
     replace H : (if t298 < 4 then (batonref03_Pack.l0 k1 a0 x4_1 x5_1 (wrap64 (x6_1 + 1))) else (if x6_1 > x5_1 then (if 0 ≤ x5_1 then (if x5_1 ≤ x6_1 then (if x6_1 ≤ (a0.size : Int) then (if x4_1.length < 3518437208883 then ((some (x4_1 ++ [(⟨false,a0.extract (x5_1 : Int).toNat (x6_1 : Int).toNat,0,0⟩ : S72)] : List (S72))).bind fun y299=>(if y299.length < 3518437208883 then (batonref03_Pack.l0 k1 a0 (y299 ++ [(⟨true,(⟨#[]⟩ : ByteArray),t297,t298⟩ : S72)]) (wrap64 (x6_1 + t298)) (wrap64 (x6_1 + t298))) else (none))) else (none)) else (none)) else (none)) else (none)) else (if x4_1.length < 3518437208883 then (batonref03_Pack.l0 k1 a0 (x4_1 ++ [(⟨true,(⟨#[]⟩ : ByteArray),t297,t298⟩ : S72)]) (wrap64 (x6_1 + t298)) (wrap64 (x6_1 + t298))) else (none)))) = some (r1,r2) := H
     have A4 := Aside0.mk A40
     clear A40
     by_cases c5 : t298 < 4
     ·rw [if_pos c5] at H
      have c5b0 : decide (t298 < 4) = true := decide_eq_true c5
      clear c5
      have H' := Aside0.mk H
      clear H
      go_wp2_with (first|((with_reducible refine gate_callee (f := 24) rfl ?_);refine goesL_ (some 19) rfl rfl Try.func24 (by kernel_rfl) rfl #[.string a0,.int .i64 x6_1] rfl (by (try simp only [List.map_toArray,List.map_cons,List.map_nil]);first|done|rfl|(simp only [List.length_drop,List.length_take];rfl)) ?_;(with_reducible refine (batonref03_Match.calls k1 a0 x6_1 t297 t298 _ A4.out).mono ?_);rintro e w' ⟨rfl,⟨nd,rfl⟩⟩;refine ⟨_,rfl,?_⟩))
      go_roundg k1
      case measure=>have := HK1.out;omega
      case rel=>exact ⟨(x4_1),(x5_1),(wrap64 (x6_1 + 1)),(by first|rfl|(simp;done)|(simp [*];done)),(by first|rfl|(simp;done)|(simp [*];done)),H',⟨by have := HK1.out;omega⟩,⟨by (with_reducible repeat (first|apply Kd.R_alloc|apply Kd.R_drewN|apply Kd.R_drew));exact HO_4.out⟩,⟨bl_⟩⟩
     ·rw [if_neg c5] at H
      have c5b0 : decide (t298 < 4) = false := decide_eq_false c5
      clear c5
      by_cases c6 : x6_1 > x5_1
      ·rw [if_pos c6] at H
       have c6b0 : decide (x5_1 < x6_1) = true := decide_eq_true c6
       clear c6
       by_cases c7 : 0 ≤ x5_1
       ·rw [if_pos c7] at H
        have c7b0 := eq_true c7
        have c7b1 : decide (0 ≤ x5_1) = true := decide_eq_true c7
        clear c7
        by_cases c8 : x5_1 ≤ x6_1
        ·rw [if_pos c8] at H
         have c8b0 := eq_true c8
         have c8b1 : decide (x5_1 ≤ x6_1) = true := decide_eq_true c8
         clear c8
         by_cases c9 : x6_1 ≤ (a0.size : Int)
         ·rw [if_pos c9] at H
          have c9b0 := eq_true c9
          have c9b1 : decide (x6_1 ≤ (a0.size : Int)) = true := decide_eq_true c9
          clear c9
          by_cases c10 : x4_1.length < 3518437208883
          ·rw [if_pos c10] at H
           have LMc10 := Aside0.mk c10
           clear c10
           obtain ⟨y299,hy299⟩ : ∃ y_ : List (S72),y_ = (x4_1 ++ [(⟨false,a0.extract (x5_1 : Int).toNat (x6_1 : Int).toNat,0,0⟩ : S72)]) := ⟨_,rfl⟩
           replace H : (if y299.length < 3518437208883 then (batonref03_Pack.l0 k1 a0 (y299 ++ [(⟨true,(⟨#[]⟩ : ByteArray),t297,t298⟩ : S72)]) (wrap64 (x6_1 + t298)) (wrap64 (x6_1 + t298))) else (none)) = some (r1,r2) := by first|(rw [hy299];with_reducible exact H)|(have H2_ := (Option.bind_some _ _).symm.trans H;rw [hy299];with_reducible exact H2_)|(have H2_ := (Option.bind_some _ _).symm.trans H;with_reducible exact H2_)|with_reducible exact H|(rw [hy299];exact H)|exact H
           have Ny299 := Aside0.mk hy299
           clear hy299
           by_cases c11 : y299.length < 3518437208883
           ·rw [if_pos c11] at H
            have LMc11 := Aside0.mk c11
            clear c11
            obtain ⟨y302,hy302⟩ : ∃ y_ : List (S72),y_ = (y299 ++ [(⟨true,(⟨#[]⟩ : ByteArray),t297,t298⟩ : S72)]) := ⟨_,rfl⟩
            replace H : (batonref03_Pack.l0 k1 a0 y302 (wrap64 (x6_1 + t298)) (wrap64 (x6_1 + t298))) = some (r1,r2) := by first|(rw [hy302];with_reducible exact H)|(have H2_ := (Option.bind_some _ _).symm.trans H;rw [hy302];with_reducible exact H2_)|(have H2_ := (Option.bind_some _ _).symm.trans H;with_reducible exact H2_)|with_reducible exact H|(rw [hy302];exact H)|exact H
            have Ny302 := Aside0.mk hy302
            clear hy302
            have H' := Aside0.mk H
            clear H
            go_wp2_with (first|((with_reducible refine gate_callee (f := 24) rfl ?_);refine goesL_ (some 19) rfl rfl Try.func24 (by kernel_rfl) rfl #[.string a0,.int .i64 x6_1] rfl (by (try simp only [List.map_toArray,List.map_cons,List.map_nil]);first|done|rfl|(simp only [List.length_drop,List.length_take];rfl)) ?_;(with_reducible refine (batonref03_Match.calls k1 a0 x6_1 t297 t298 _ A4.out).mono ?_);rintro e w' ⟨rfl,⟨nd,rfl⟩⟩;refine ⟨_,rfl,?_⟩)|((with_reducible refine gate_builtin (b := .append) (xs := #[.tmp 29,.tmp 35]) rfl ?_);at_builtin;refine Kd.R_append k72 (w0 := w) w.heap.size rfl (.tmp 29) (.tmp 35) 39 72 (.agg #[(.bool false),(.string ⟨#[]⟩),(.int .i64 0),(.int .i64 0)]) 40 rfl Try.underlying39 info72 rfl (by decide) (by omega) u4 x4_1 (⟨false,a0.extract (x5_1 : Int).toNat (x6_1 : Int).toNat,0,0⟩ : S72) [.bool false,.string (a0.extract (x5_1 : Int).toNat (x6_1 : Int).toNat),.int .i64 0,.int .i64 0] (fun _=>True) (fun _=>False) rfl rfl ?aP (fun _ hk=>hk.elim) ?aF ?aO ?aB ?aS ?aL ?_;(case aP=>exact k72_mkM _ _ _ (⟨false,a0.extract (x5_1 : Int).toNat (x6_1 : Int).toNat,0,0⟩ : S72));(case aB=>exact (bl_));(case aF=>exact (fun _ _=>trivial));(case aO=>exact (by (with_reducible repeat (first|apply Kd.R_alloc|apply Kd.R_drewN|apply Kd.R_drew));exact HO_4.out));(case aS=>exact (below_size (bl_)));(case aL=>have := LMc10.out;omega);intro v300 w12 ho hb hg hat;rw [← Ny299.out] at ho;have n0_ := Aside0.mk (hb);have n1_ := Aside0.mk (ho);clear HB;clear HO_4;have HB := n0_;have HO301 := n1_;clear n0_ n1_;clear ho hb hg hat)|((with_reducible refine gate_builtin (b := .append) (xs := #[.tmp 37,.tmp 41]) rfl ?_);at_builtin;refine Kd.R_append k72 (w0 := w) w.heap.size rfl (.tmp 37) (.tmp 41) 39 72 (.agg #[(.bool false),(.string ⟨#[]⟩),(.int .i64 0),(.int .i64 0)]) 40 rfl Try.underlying39 info72 rfl (by decide) (by omega) v300 y299 (⟨true,(⟨#[]⟩ : ByteArray),t297,t298⟩ : S72) [.bool true,.string (⟨#[]⟩ : ByteArray),.int .i64 t297,.int .i64 t298] (fun _=>True) (fun _=>False) rfl rfl ?aP (fun _ hk=>hk.elim) ?aF ?aO ?aB ?aS ?aL ?_;(case aP=>exact k72_mkM _ _ _ (⟨true,(⟨#[]⟩ : ByteArray),t297,t298⟩ : S72));(case aB=>exact (bl_));(case aF=>exact (fun _ _=>trivial));(case aO=>exact (by (with_reducible repeat (first|apply Kd.R_alloc|apply Kd.R_drewN|apply Kd.R_drew));exact HO301.out));(case aS=>exact (below_size (bl_)));(case aL=>have := LMc11.out;omega);intro v303 w13 ho hb hg hat;rw [← Ny302.out] at ho;have n0_ := Aside0.mk (hb);have n1_ := Aside0.mk (ho);clear HB;clear HO301;have HB := n0_;have HO304 := n1_;clear n0_ n1_;clear ho hb hg hat))
            go_roundg k1
            case measure=>have := HK1.out;omega
            case rel=>exact ⟨(y302),(wrap64 (x6_1 + t298)),(wrap64 (x6_1 + t298)),(by first|rfl|(simp;done)|(simp [*];done)),(by first|rfl|(simp;done)|(simp [*];done)),H',⟨by have := HK1.out;omega⟩,⟨by (with_reducible repeat (first|apply Kd.R_alloc|apply Kd.R_drewN|apply Kd.R_drew));exact HO304.out⟩,⟨bl_⟩⟩
           ·rw [if_neg c11] at H
            exact absurd H (by simp)
          ·rw [if_neg c10] at H
           exact absurd H (by simp)
         ·rw [if_neg c9] at H
          exact absurd H (by simp)
        ·rw [if_neg c8] at H
         exact absurd H (by simp)
       ·rw [if_neg c7] at H
        exact absurd H (by simp)
      ·rw [if_neg c6] at H
       have c6b0 : decide (x5_1 < x6_1) = false := decide_eq_false c6
       clear c6
       by_cases c14 : x4_1.length < 3518437208883
       ·rw [if_pos c14] at H
        have LMc14 := Aside0.mk c14
        clear c14
        obtain ⟨y305,hy305⟩ : ∃ y_ : List (S72),y_ = (x4_1 ++ [(⟨true,(⟨#[]⟩ : ByteArray),t297,t298⟩ : S72)]) := ⟨_,rfl⟩
        replace H : (batonref03_Pack.l0 k1 a0 y305 (wrap64 (x6_1 + t298)) (wrap64 (x6_1 + t298))) = some (r1,r2) := by first|(rw [hy305];with_reducible exact H)|(have H2_ := (Option.bind_some _ _).symm.trans H;rw [hy305];with_reducible exact H2_)|(have H2_ := (Option.bind_some _ _).symm.trans H;with_reducible exact H2_)|with_reducible exact H|(rw [hy305];exact H)|exact H
        have Ny305 := Aside0.mk hy305
        clear hy305
        have H' := Aside0.mk H
        clear H
        go_wp2_with (first|((with_reducible refine gate_callee (f := 24) rfl ?_);refine goesL_ (some 19) rfl rfl Try.func24 (by kernel_rfl) rfl #[.string a0,.int .i64 x6_1] rfl (by (try simp only [List.map_toArray,List.map_cons,List.map_nil]);first|done|rfl|(simp only [List.length_drop,List.length_take];rfl)) ?_;(with_reducible refine (batonref03_Match.calls k1 a0 x6_1 t297 t298 _ A4.out).mono ?_);rintro e w' ⟨rfl,⟨nd,rfl⟩⟩;refine ⟨_,rfl,?_⟩)|((with_reducible refine gate_builtin (b := .append) (xs := #[.tmp 37,.tmp 41]) rfl ?_);at_builtin;refine Kd.R_append k72 (w0 := w) w.heap.size rfl (.tmp 37) (.tmp 41) 39 72 (.agg #[(.bool false),(.string ⟨#[]⟩),(.int .i64 0),(.int .i64 0)]) 40 rfl Try.underlying39 info72 rfl (by decide) (by omega) u4 x4_1 (⟨true,(⟨#[]⟩ : ByteArray),t297,t298⟩ : S72) [.bool true,.string (⟨#[]⟩ : ByteArray),.int .i64 t297,.int .i64 t298] (fun _=>True) (fun _=>False) rfl rfl ?aP (fun _ hk=>hk.elim) ?aF ?aO ?aB ?aS ?aL ?_;(case aP=>exact k72_mkM _ _ _ (⟨true,(⟨#[]⟩ : ByteArray),t297,t298⟩ : S72));(case aB=>exact (bl_));(case aF=>exact (fun _ _=>trivial));(case aO=>exact (by (with_reducible repeat (first|apply Kd.R_alloc|apply Kd.R_drewN|apply Kd.R_drew));exact HO_4.out));(case aS=>exact (below_size (bl_)));(case aL=>have := LMc14.out;omega);intro v306 w15 ho hb hg hat;rw [← Ny305.out] at ho;have n0_ := Aside0.mk (hb);have n1_ := Aside0.mk (ho);clear HB;clear HO_4;have HB := n0_;have HO307 := n1_;clear n0_ n1_;clear ho hb hg hat))
        go_roundg k1
        case measure=>have := HK1.out;omega
        case rel=>exact ⟨(y305),(wrap64 (x6_1 + t298)),(wrap64 (x6_1 + t298)),(by first|rfl|(simp;done)|(simp [*];done)),(by first|rfl|(simp;done)|(simp [*];done)),H',⟨by have := HK1.out;omega⟩,⟨by (with_reducible repeat (first|apply Kd.R_alloc|apply Kd.R_drewN|apply Kd.R_drew));exact HO307.out⟩,⟨bl_⟩⟩
       ·rw [if_neg c14] at H
        exact absurd H (by simp)
    ·rw [if_neg c3] at H
     have c3b0 : decide (x6_1 < (a0.size : Int)) = false := decide_eq_false c3
     clear c3
     by_cases c16 : x6_1 > x5_1
     ·rw [if_pos c16] at H
      have c16b0 : decide (x5_1 < x6_1) = true := decide_eq_true c16
      clear c16
      by_cases c17 : 0 ≤ x5_1
      ·rw [if_pos c17] at H
       have c17b0 := eq_true c17
       have c17b1 : decide (0 ≤ x5_1) = true := decide_eq_true c17
       clear c17
       by_cases c18 : x5_1 ≤ (a0.size : Int)
       ·rw [if_pos c18] at H
        have c18b0 := eq_true c18
        have c18b1 : decide (x5_1 ≤ (a0.size : Int)) = true := decide_eq_true c18
        clear c18
        by_cases c19 : x4_1.length < 3518437208883
        ·rw [if_pos c19] at H
         have LMc19 := Aside0.mk c19
         clear c19
         obtain ⟨y294,hy294⟩ : ∃ y_ : List (S72),y_ = (x4_1 ++ [(⟨false,a0.extract (x5_1 : Int).toNat a0.size,0,0⟩ : S72)]) := ⟨_,rfl⟩
         replace H : (some (y294,0)) = some (r1,r2) := by first|(rw [hy294];with_reducible exact H)|(have H2_ := (Option.bind_some _ _).symm.trans H;rw [hy294];with_reducible exact H2_)|(have H2_ := (Option.bind_some _ _).symm.trans H;with_reducible exact H2_)|with_reducible exact H|(rw [hy294];exact H)|exact H
         have Ny294 := Aside0.mk hy294
         clear hy294
         simp only [Option.some.injEq,Prod.mk.injEq] at H
         obtain ⟨rfl,rfl⟩ := H
         go_wp2_with (first|((with_reducible refine gate_builtin (b := .append) (xs := #[.tmp 50,.tmp 55]) rfl ?_);at_builtin;refine Kd.R_append k72 (w0 := w) w.heap.size rfl (.tmp 50) (.tmp 55) 39 72 (.agg #[(.bool false),(.string ⟨#[]⟩),(.int .i64 0),(.int .i64 0)]) 40 rfl Try.underlying39 info72 rfl (by decide) (by omega) u4 x4_1 (⟨false,a0.extract (x5_1 : Int).toNat a0.size,0,0⟩ : S72) [.bool false,.string (a0.extract (x5_1 : Int).toNat a0.size),.int .i64 0,.int .i64 0] (fun _=>True) (fun _=>False) rfl rfl ?aP (fun _ hk=>hk.elim) ?aF ?aO ?aB ?aS ?aL ?_;(case aP=>exact k72_mkM _ _ _ (⟨false,a0.extract (x5_1 : Int).toNat a0.size,0,0⟩ : S72));(case aB=>exact (bl_));(case aF=>exact (fun _ _=>trivial));(case aO=>exact (by (with_reducible repeat (first|apply Kd.R_alloc|apply Kd.R_drewN|apply Kd.R_drew));exact HO_4.out));(case aS=>exact (below_size (bl_)));(case aL=>have := LMc19.out;omega);intro v295 w20 ho hb hg hat;rw [← Ny294.out] at ho;have n0_ := Aside0.mk (hb);have n1_ := Aside0.mk (ho);clear HB;clear HO_4;have HB := n0_;have HO296 := n1_;clear n0_ n1_;clear ho hb hg hat))
         go_ret2
         exact ⟨_,by first|rfl|(simp [errW_none,errW_some] <;> rfl)|(simp [*,errW_none,errW_some] <;> rfl),by (with_reducible repeat (first|apply Kd.R_alloc|apply Kd.R_drewN|apply Kd.R_drew));exact HO296.out,bl_⟩
        ·rw [if_neg c19] at H
         exact absurd H (by simp)
       ·rw [if_neg c18] at H
        exact absurd H (by simp)
      ·rw [if_neg c17] at H
       exact absurd H (by simp)
     ·rw [if_neg c16] at H
      have c16b0 : decide (x5_1 < x6_1) = false := decide_eq_false c16
      clear c16
      simp only [Option.some.injEq,Prod.mk.injEq] at H
      obtain ⟨rfl,rfl⟩ := H
      go_wp2
      go_ret2
      exact ⟨_,by first|rfl|(simp [errW_none,errW_some] <;> rfl)|(simp [*,errW_none,errW_some] <;> rfl),by (with_reducible repeat (first|apply Kd.R_alloc|apply Kd.R_drewN|apply Kd.R_drew));exact HO_4.out,bl_⟩

/-! ### batonref03_May: function 44 -/
def batonref03_May.f (a0_0 : Bool) (a0_1 : ByteArray) (a0_2 : Int) (a0_3 : Int) : Option (Bool) := if a0_0 = true then (if a0_1.toList = ([] : List UInt8) then (if a0_3 ≥ 1 then (if a0_3 ≤ 64 then (if a0_2 ≥ 1 then (some (decide (a0_2 ≤ 4294967295))) else (some false)) else (some false)) else (some false)) else (some false)) else (if (a0_1.size : Int) ≥ 1 then (if (a0_1.size : Int) ≤ 65536 then (if a0_3 = 0 then (some (a0_2 == 0)) else (some false)) else (some false)) else (some false))
set_option maxHeartbeats 8000000 in
set_option maxRecDepth 100000 in
theorem batonref03_May.calls (a0_0 : Bool) (a0_1 : ByteArray) (a0_2 : Int) (a0_3 : Int) (r : Bool) (w : World) (h : batonref03_May.f a0_0 a0_1 a0_2 a0_3 = some r) :
  Calls Try.prog 44 #[.agg #[.bool a0_0,.string a0_1,.int .i64 a0_2,.int .i64 a0_3]] w fun e w'=>e = .returned (.bool r) ∧ Below w.heap.size w w' := by
 have hu72 := Try.underlying72
 have HB := Aside0.mk (Below.refl w.heap.size w)
 have H : (if a0_0 = true then (if a0_1.toList = ([] : List UInt8) then (if a0_3 ≥ 1 then (if a0_3 ≤ 64 then (if a0_2 ≥ 1 then (some (decide (a0_2 ≤ 4294967295))) else (some false)) else (some false)) else (some false)) else (some false)) else (if (a0_1.size : Int) ≥ 1 then (if (a0_1.size : Int) ≤ 65536 then (if a0_3 = 0 then (some (a0_2 == 0)) else (some false)) else (some false)) else (some false))) = some r := h
 clear h
 by_cases c2 : a0_0 = true
 ·subst c2
  have H1 : (if a0_1.toList = ([] : List UInt8) then (if a0_3 ≥ 1 then (if a0_3 ≤ 64 then (if a0_2 ≥ 1 then (some (decide (a0_2 ≤ 4294967295))) else (some false)) else (some false)) else (some false)) else (some false)) = some r := by rw [if_pos rfl] at H;exact H
  clear H
  have H := H1
  clear H1
  by_cases c3 : a0_1.toList = ([] : List UInt8)
  ·rw [if_pos c3] at H
   have c3b0 : (a0_1.toList == ([] : List UInt8)) = true := beq_iff_eq.mpr c3
   have c3b1 : (a0_1.toList != ([] : List UInt8)) = false := bne_eq_false_iff_eq.mpr c3
   clear c3
   by_cases c4 : a0_3 ≥ 1
   ·rw [if_pos c4] at H
    have c4b0 : decide (1 ≤ a0_3) = true := decide_eq_true c4
    clear c4
    by_cases c5 : a0_3 ≤ 64
    ·rw [if_pos c5] at H
     have c5b0 : decide (a0_3 ≤ 64) = true := decide_eq_true c5
     clear c5
     by_cases c6 : a0_2 ≥ 1
     ·rw [if_pos c6] at H
      have c6b0 : decide (1 ≤ a0_2) = true := decide_eq_true c6
      clear c6
      obtain rfl := Option.some.inj H
      go_enter Try.func44,Try.ntmps44
      go_wp2_with (first|((with_reducible refine gate_dst (N := 1) rfl ?_);(try (refine gate_guard (by rfl) ?_;dsimp only));refine box_event ?hg (N := 1) ?hd (cs := #[.bool true,.string a0_1,.int .i64 a0_2,.int .i64 a0_3]) (t := 72) ?hr ?_;(case hd=>rfl);(case hg=>rfl);(case hr=>first|(go_simp;done)|(go_simp;rfl)|(go_simp;simp [my_u8w];done));intro gb308 hg w7 hbox hb;have n0_ := Aside0.mk (below_step (bl_) hb);have n1_ := Aside0.mk (hbox);have n2_ := Aside0.mk ((by rw [hg];exact (below_size (bl_)) : w.heap.size ≤ gb308));have n3_ := Aside0.mk ((by rw [hg];exact (below_size (bl_)) : w.heap.size ≤ gb308));clear HB;have HB := n0_;have BK308 := n1_;have GW308 := n2_;have GE308 := n3_;clear n0_ n1_ n2_ n3_;clear hb hbox hg;have hcz8_0 : w7.cell? ⟨gb308,0,none⟩ = some (.bool true) := (blk_cell BK308.out 0).trans rfl;have hcz8_1 : w7.cell? ⟨gb308,1,none⟩ = some (.string a0_1) := (blk_cell BK308.out 1).trans rfl;have hcz8_2 : w7.cell? ⟨gb308,2,none⟩ = some (.int .i64 a0_2) := (blk_cell BK308.out 2).trans rfl;have hcz8_3 : w7.cell? ⟨gb308,3,none⟩ = some (.int .i64 a0_3) := (blk_cell BK308.out 3).trans rfl;have hfz8_0 := blk_frozen BK308.out 0;have hfz8_1 := blk_frozen BK308.out 1;have hfz8_2 := blk_frozen BK308.out 2;have hfz8_3 := blk_frozen BK308.out 3))
      go_ret
      exact ⟨by first|rfl|(simp [errW_none,errW_some] <;> rfl)|(simp [*,errW_none,errW_some] <;> rfl),by repeat (first|(with_reducible first|exact HB.out|apply below_alloc|apply pw_below_drewN|apply below_drew1|refine below_set ?_ GE308.out)|exact HB.out)⟩
     ·rw [if_neg c6] at H
      have c6b0 : decide (1 ≤ a0_2) = false := decide_eq_false c6
      clear c6
      obtain rfl := Option.some.inj H
      go_enter Try.func44,Try.ntmps44
      go_wp2_with (first|((with_reducible refine gate_dst (N := 1) rfl ?_);(try (refine gate_guard (by rfl) ?_;dsimp only));refine box_event ?hg (N := 1) ?hd (cs := #[.bool true,.string a0_1,.int .i64 a0_2,.int .i64 a0_3]) (t := 72) ?hr ?_;(case hd=>rfl);(case hg=>rfl);(case hr=>first|(go_simp;done)|(go_simp;rfl)|(go_simp;simp [my_u8w];done));intro gb308 hg w9 hbox hb;have n0_ := Aside0.mk (below_step (bl_) hb);have n1_ := Aside0.mk (hbox);have n2_ := Aside0.mk ((by rw [hg];exact (below_size (bl_)) : w.heap.size ≤ gb308));have n3_ := Aside0.mk ((by rw [hg];exact (below_size (bl_)) : w.heap.size ≤ gb308));clear HB;have HB := n0_;have BK308 := n1_;have GW308 := n2_;have GE308 := n3_;clear n0_ n1_ n2_ n3_;clear hb hbox hg;have hcz10_0 : w9.cell? ⟨gb308,0,none⟩ = some (.bool true) := (blk_cell BK308.out 0).trans rfl;have hcz10_1 : w9.cell? ⟨gb308,1,none⟩ = some (.string a0_1) := (blk_cell BK308.out 1).trans rfl;have hcz10_2 : w9.cell? ⟨gb308,2,none⟩ = some (.int .i64 a0_2) := (blk_cell BK308.out 2).trans rfl;have hcz10_3 : w9.cell? ⟨gb308,3,none⟩ = some (.int .i64 a0_3) := (blk_cell BK308.out 3).trans rfl;have hfz10_0 := blk_frozen BK308.out 0;have hfz10_1 := blk_frozen BK308.out 1;have hfz10_2 := blk_frozen BK308.out 2;have hfz10_3 := blk_frozen BK308.out 3))
      go_ret
      exact ⟨by first|rfl|(simp [errW_none,errW_some] <;> rfl)|(simp [*,errW_none,errW_some] <;> rfl),by repeat (first|(with_reducible first|exact HB.out|apply below_alloc|apply pw_below_drewN|apply below_drew1|refine below_set ?_ GE308.out)|exact HB.out)⟩
    ·rw [if_neg c5] at H
     have c5b0 : decide (a0_3 ≤ 64) = false := decide_eq_false c5
     clear c5
     obtain rfl := Option.some.inj H
     go_enter Try.func44,Try.ntmps44
     go_wp2_with (first|((with_reducible refine gate_dst (N := 1) rfl ?_);(try (refine gate_guard (by rfl) ?_;dsimp only));refine box_event ?hg (N := 1) ?hd (cs := #[.bool true,.string a0_1,.int .i64 a0_2,.int .i64 a0_3]) (t := 72) ?hr ?_;(case hd=>rfl);(case hg=>rfl);(case hr=>first|(go_simp;done)|(go_simp;rfl)|(go_simp;simp [my_u8w];done));intro gb308 hg w11 hbox hb;have n0_ := Aside0.mk (below_step (bl_) hb);have n1_ := Aside0.mk (hbox);have n2_ := Aside0.mk ((by rw [hg];exact (below_size (bl_)) : w.heap.size ≤ gb308));have n3_ := Aside0.mk ((by rw [hg];exact (below_size (bl_)) : w.heap.size ≤ gb308));clear HB;have HB := n0_;have BK308 := n1_;have GW308 := n2_;have GE308 := n3_;clear n0_ n1_ n2_ n3_;clear hb hbox hg;have hcz12_0 : w11.cell? ⟨gb308,0,none⟩ = some (.bool true) := (blk_cell BK308.out 0).trans rfl;have hcz12_1 : w11.cell? ⟨gb308,1,none⟩ = some (.string a0_1) := (blk_cell BK308.out 1).trans rfl;have hcz12_2 : w11.cell? ⟨gb308,2,none⟩ = some (.int .i64 a0_2) := (blk_cell BK308.out 2).trans rfl;have hcz12_3 : w11.cell? ⟨gb308,3,none⟩ = some (.int .i64 a0_3) := (blk_cell BK308.out 3).trans rfl;have hfz12_0 := blk_frozen BK308.out 0;have hfz12_1 := blk_frozen BK308.out 1;have hfz12_2 := blk_frozen BK308.out 2;have hfz12_3 := blk_frozen BK308.out 3))
     go_ret
     exact ⟨by first|rfl|(simp [errW_none,errW_some] <;> rfl)|(simp [*,errW_none,errW_some] <;> rfl),by repeat (first|(with_reducible first|exact HB.out|apply below_alloc|apply pw_below_drewN|apply below_drew1|refine below_set ?_ GE308.out)|exact HB.out)⟩
   ·rw [if_neg c4] at H
    have c4b0 : decide (1 ≤ a0_3) = false := decide_eq_false c4
    clear c4
    obtain rfl := Option.some.inj H
    go_enter Try.func44,Try.ntmps44
    go_wp2_with (first|((with_reducible refine gate_dst (N := 1) rfl ?_);(try (refine gate_guard (by rfl) ?_;dsimp only));refine box_event ?hg (N := 1) ?hd (cs := #[.bool true,.string a0_1,.int .i64 a0_2,.int .i64 a0_3]) (t := 72) ?hr ?_;(case hd=>rfl);(case hg=>rfl);(case hr=>first|(go_simp;done)|(go_simp;rfl)|(go_simp;simp [my_u8w];done));intro gb308 hg w13 hbox hb;have n0_ := Aside0.mk (below_step (bl_) hb);have n1_ := Aside0.mk (hbox);have n2_ := Aside0.mk ((by rw [hg];exact (below_size (bl_)) : w.heap.size ≤ gb308));have n3_ := Aside0.mk ((by rw [hg];exact (below_size (bl_)) : w.heap.size ≤ gb308));clear HB;have HB := n0_;have BK308 := n1_;have GW308 := n2_;have GE308 := n3_;clear n0_ n1_ n2_ n3_;clear hb hbox hg;have hcz14_0 : w13.cell? ⟨gb308,0,none⟩ = some (.bool true) := (blk_cell BK308.out 0).trans rfl;have hcz14_1 : w13.cell? ⟨gb308,1,none⟩ = some (.string a0_1) := (blk_cell BK308.out 1).trans rfl;have hcz14_2 : w13.cell? ⟨gb308,2,none⟩ = some (.int .i64 a0_2) := (blk_cell BK308.out 2).trans rfl;have hcz14_3 : w13.cell? ⟨gb308,3,none⟩ = some (.int .i64 a0_3) := (blk_cell BK308.out 3).trans rfl;have hfz14_0 := blk_frozen BK308.out 0;have hfz14_1 := blk_frozen BK308.out 1;have hfz14_2 := blk_frozen BK308.out 2;have hfz14_3 := blk_frozen BK308.out 3))
    go_ret
    exact ⟨by first|rfl|(simp [errW_none,errW_some] <;> rfl)|(simp [*,errW_none,errW_some] <;> rfl),by repeat (first|(with_reducible first|exact HB.out|apply below_alloc|apply pw_below_drewN|apply below_drew1|refine below_set ?_ GE308.out)|exact HB.out)⟩
  ·rw [if_neg c3] at H
   have c3b0 : (a0_1.toList == ([] : List UInt8)) = false := beq_eq_false_iff_ne.mpr c3
   have c3b1 : (a0_1.toList != ([] : List UInt8)) = true := bne_iff_ne.mpr c3
   obtain rfl := Option.some.inj H
   go_enter Try.func44,Try.ntmps44
   go_wp2_with (first|((with_reducible refine gate_dst (N := 1) rfl ?_);(try (refine gate_guard (by rfl) ?_;dsimp only));refine box_event ?hg (N := 1) ?hd (cs := #[.bool true,.string a0_1,.int .i64 a0_2,.int .i64 a0_3]) (t := 72) ?hr ?_;(case hd=>rfl);(case hg=>rfl);(case hr=>first|(go_simp;done)|(go_simp;rfl)|(go_simp;simp [my_u8w];done));intro gb308 hg w15 hbox hb;have n0_ := Aside0.mk (below_step (bl_) hb);have n1_ := Aside0.mk (hbox);have n2_ := Aside0.mk ((by rw [hg];exact (below_size (bl_)) : w.heap.size ≤ gb308));have n3_ := Aside0.mk ((by rw [hg];exact (below_size (bl_)) : w.heap.size ≤ gb308));clear HB;have HB := n0_;have BK308 := n1_;have GW308 := n2_;have GE308 := n3_;clear n0_ n1_ n2_ n3_;clear hb hbox hg;have hcz16_0 : w15.cell? ⟨gb308,0,none⟩ = some (.bool true) := (blk_cell BK308.out 0).trans rfl;have hcz16_1 : w15.cell? ⟨gb308,1,none⟩ = some (.string a0_1) := (blk_cell BK308.out 1).trans rfl;have hcz16_2 : w15.cell? ⟨gb308,2,none⟩ = some (.int .i64 a0_2) := (blk_cell BK308.out 2).trans rfl;have hcz16_3 : w15.cell? ⟨gb308,3,none⟩ = some (.int .i64 a0_3) := (blk_cell BK308.out 3).trans rfl;have hfz16_0 := blk_frozen BK308.out 0;have hfz16_1 := blk_frozen BK308.out 1;have hfz16_2 := blk_frozen BK308.out 2;have hfz16_3 := blk_frozen BK308.out 3))
   go_ret
   exact ⟨by first|rfl|(simp [errW_none,errW_some] <;> rfl)|(simp [*,errW_none,errW_some] <;> rfl),by repeat (first|(with_reducible first|exact HB.out|apply below_alloc|apply pw_below_drewN|apply below_drew1|refine below_set ?_ GE308.out)|exact HB.out)⟩
 ·replace c2 := Bool.eq_false_iff.mpr c2
  subst c2
  have H1 : (if (a0_1.size : Int) ≥ 1 then (if (a0_1.size : Int) ≤ 65536 then (if a0_3 = 0 then (some (a0_2 == 0)) else (some false)) else (some false)) else (some false)) = some r := by rw [if_neg (show ¬ (false = true) by decide)] at H;exact H
  clear H
  have H := H1
  clear H1
  by_cases c17 : (a0_1.size : Int) ≥ 1
  ·rw [if_pos c17] at H
   have c17b0 : decide (1 ≤ (a0_1.size : Int)) = true := decide_eq_true c17
   have c17b1 : decide (1 ≤ a0_1.size) = true := decide_eq_true (by omega)
   clear c17
   by_cases c18 : (a0_1.size : Int) ≤ 65536
   ·rw [if_pos c18] at H
    have c18b0 : decide ((a0_1.size : Int) ≤ 65536) = true := decide_eq_true c18
    have c18b1 : decide (a0_1.size ≤ 65536) = true := decide_eq_true (by omega)
    clear c18
    by_cases c19 : a0_3 = 0
    ·rw [if_pos c19] at H
     have c19b0 : (a0_3 == 0) = true := beq_iff_eq.mpr c19
     have c19b1 : (a0_3 != 0) = false := bne_eq_false_iff_eq.mpr c19
     clear c19
     obtain rfl := Option.some.inj H
     go_enter Try.func44,Try.ntmps44
     go_wp2_with (first|((with_reducible refine gate_dst (N := 1) rfl ?_);(try (refine gate_guard (by rfl) ?_;dsimp only));refine box_event ?hg (N := 1) ?hd (cs := #[.bool false,.string a0_1,.int .i64 a0_2,.int .i64 a0_3]) (t := 72) ?hr ?_;(case hd=>rfl);(case hg=>rfl);(case hr=>first|(go_simp;done)|(go_simp;rfl)|(go_simp;simp [my_u8w];done));intro gb308 hg w20 hbox hb;have n0_ := Aside0.mk (below_step (bl_) hb);have n1_ := Aside0.mk (hbox);have n2_ := Aside0.mk ((by rw [hg];exact (below_size (bl_)) : w.heap.size ≤ gb308));have n3_ := Aside0.mk ((by rw [hg];exact (below_size (bl_)) : w.heap.size ≤ gb308));clear HB;have HB := n0_;have BK308 := n1_;have GW308 := n2_;have GE308 := n3_;clear n0_ n1_ n2_ n3_;clear hb hbox hg;have hcz21_0 : w20.cell? ⟨gb308,0,none⟩ = some (.bool false) := (blk_cell BK308.out 0).trans rfl;have hcz21_1 : w20.cell? ⟨gb308,1,none⟩ = some (.string a0_1) := (blk_cell BK308.out 1).trans rfl;have hcz21_2 : w20.cell? ⟨gb308,2,none⟩ = some (.int .i64 a0_2) := (blk_cell BK308.out 2).trans rfl;have hcz21_3 : w20.cell? ⟨gb308,3,none⟩ = some (.int .i64 a0_3) := (blk_cell BK308.out 3).trans rfl;have hfz21_0 := blk_frozen BK308.out 0;have hfz21_1 := blk_frozen BK308.out 1;have hfz21_2 := blk_frozen BK308.out 2;have hfz21_3 := blk_frozen BK308.out 3))
     go_ret
     exact ⟨by first|rfl|(simp [errW_none,errW_some] <;> rfl)|(simp [*,errW_none,errW_some] <;> rfl),by repeat (first|(with_reducible first|exact HB.out|apply below_alloc|apply pw_below_drewN|apply below_drew1|refine below_set ?_ GE308.out)|exact HB.out)⟩
    ·rw [if_neg c19] at H
     have c19b0 : (a0_3 == 0) = false := beq_eq_false_iff_ne.mpr c19
     have c19b1 : (a0_3 != 0) = true := bne_iff_ne.mpr c19
     obtain rfl := Option.some.inj H
     go_enter Try.func44,Try.ntmps44
     go_wp2_with (first|((with_reducible refine gate_dst (N := 1) rfl ?_);(try (refine gate_guard (by rfl) ?_;dsimp only));refine box_event ?hg (N := 1) ?hd (cs := #[.bool false,.string a0_1,.int .i64 a0_2,.int .i64 a0_3]) (t := 72) ?hr ?_;(case hd=>rfl);(case hg=>rfl);(case hr=>first|(go_simp;done)|(go_simp;rfl)|(go_simp;simp [my_u8w];done));intro gb308 hg w22 hbox hb;have n0_ := Aside0.mk (below_step (bl_) hb);have n1_ := Aside0.mk (hbox);have n2_ := Aside0.mk ((by rw [hg];exact (below_size (bl_)) : w.heap.size ≤ gb308));have n3_ := Aside0.mk ((by rw [hg];exact (below_size (bl_)) : w.heap.size ≤ gb308));clear HB;have HB := n0_;have BK308 := n1_;have GW308 := n2_;have GE308 := n3_;clear n0_ n1_ n2_ n3_;clear hb hbox hg;have hcz23_0 : w22.cell? ⟨gb308,0,none⟩ = some (.bool false) := (blk_cell BK308.out 0).trans rfl;have hcz23_1 : w22.cell? ⟨gb308,1,none⟩ = some (.string a0_1) := (blk_cell BK308.out 1).trans rfl;have hcz23_2 : w22.cell? ⟨gb308,2,none⟩ = some (.int .i64 a0_2) := (blk_cell BK308.out 2).trans rfl;have hcz23_3 : w22.cell? ⟨gb308,3,none⟩ = some (.int .i64 a0_3) := (blk_cell BK308.out 3).trans rfl;have hfz23_0 := blk_frozen BK308.out 0;have hfz23_1 := blk_frozen BK308.out 1;have hfz23_2 := blk_frozen BK308.out 2;have hfz23_3 := blk_frozen BK308.out 3))
     go_ret
     exact ⟨by first|rfl|(simp [errW_none,errW_some] <;> rfl)|(simp [*,errW_none,errW_some] <;> rfl),by repeat (first|(with_reducible first|exact HB.out|apply below_alloc|apply pw_below_drewN|apply below_drew1|refine below_set ?_ GE308.out)|exact HB.out)⟩
   ·rw [if_neg c18] at H
    have c18b0 : decide ((a0_1.size : Int) ≤ 65536) = false := decide_eq_false c18
    have c18b1 : decide (a0_1.size ≤ 65536) = false := decide_eq_false (by omega)
    clear c18
    obtain rfl := Option.some.inj H
    go_enter Try.func44,Try.ntmps44
    go_wp2_with (first|((with_reducible refine gate_dst (N := 1) rfl ?_);(try (refine gate_guard (by rfl) ?_;dsimp only));refine box_event ?hg (N := 1) ?hd (cs := #[.bool false,.string a0_1,.int .i64 a0_2,.int .i64 a0_3]) (t := 72) ?hr ?_;(case hd=>rfl);(case hg=>rfl);(case hr=>first|(go_simp;done)|(go_simp;rfl)|(go_simp;simp [my_u8w];done));intro gb308 hg w24 hbox hb;have n0_ := Aside0.mk (below_step (bl_) hb);have n1_ := Aside0.mk (hbox);have n2_ := Aside0.mk ((by rw [hg];exact (below_size (bl_)) : w.heap.size ≤ gb308));have n3_ := Aside0.mk ((by rw [hg];exact (below_size (bl_)) : w.heap.size ≤ gb308));clear HB;have HB := n0_;have BK308 := n1_;have GW308 := n2_;have GE308 := n3_;clear n0_ n1_ n2_ n3_;clear hb hbox hg;have hcz25_0 : w24.cell? ⟨gb308,0,none⟩ = some (.bool false) := (blk_cell BK308.out 0).trans rfl;have hcz25_1 : w24.cell? ⟨gb308,1,none⟩ = some (.string a0_1) := (blk_cell BK308.out 1).trans rfl;have hcz25_2 : w24.cell? ⟨gb308,2,none⟩ = some (.int .i64 a0_2) := (blk_cell BK308.out 2).trans rfl;have hcz25_3 : w24.cell? ⟨gb308,3,none⟩ = some (.int .i64 a0_3) := (blk_cell BK308.out 3).trans rfl;have hfz25_0 := blk_frozen BK308.out 0;have hfz25_1 := blk_frozen BK308.out 1;have hfz25_2 := blk_frozen BK308.out 2;have hfz25_3 := blk_frozen BK308.out 3))
    go_ret
    exact ⟨by first|rfl|(simp [errW_none,errW_some] <;> rfl)|(simp [*,errW_none,errW_some] <;> rfl),by repeat (first|(with_reducible first|exact HB.out|apply below_alloc|apply pw_below_drewN|apply below_drew1|refine below_set ?_ GE308.out)|exact HB.out)⟩
  ·rw [if_neg c17] at H
   have c17b0 : decide (1 ≤ (a0_1.size : Int)) = false := decide_eq_false c17
   have c17b1 : decide (1 ≤ a0_1.size) = false := decide_eq_false (by omega)
   clear c17
   obtain rfl := Option.some.inj H
   go_enter Try.func44,Try.ntmps44
   go_wp2_with (first|((with_reducible refine gate_dst (N := 1) rfl ?_);(try (refine gate_guard (by rfl) ?_;dsimp only));refine box_event ?hg (N := 1) ?hd (cs := #[.bool false,.string a0_1,.int .i64 a0_2,.int .i64 a0_3]) (t := 72) ?hr ?_;(case hd=>rfl);(case hg=>rfl);(case hr=>first|(go_simp;done)|(go_simp;rfl)|(go_simp;simp [my_u8w];done));intro gb308 hg w26 hbox hb;have n0_ := Aside0.mk (below_step (bl_) hb);have n1_ := Aside0.mk (hbox);have n2_ := Aside0.mk ((by rw [hg];exact (below_size (bl_)) : w.heap.size ≤ gb308));have n3_ := Aside0.mk ((by rw [hg];exact (below_size (bl_)) : w.heap.size ≤ gb308));clear HB;have HB := n0_;have BK308 := n1_;have GW308 := n2_;have GE308 := n3_;clear n0_ n1_ n2_ n3_;clear hb hbox hg;have hcz27_0 : w26.cell? ⟨gb308,0,none⟩ = some (.bool false) := (blk_cell BK308.out 0).trans rfl;have hcz27_1 : w26.cell? ⟨gb308,1,none⟩ = some (.string a0_1) := (blk_cell BK308.out 1).trans rfl;have hcz27_2 : w26.cell? ⟨gb308,2,none⟩ = some (.int .i64 a0_2) := (blk_cell BK308.out 2).trans rfl;have hcz27_3 : w26.cell? ⟨gb308,3,none⟩ = some (.int .i64 a0_3) := (blk_cell BK308.out 3).trans rfl;have hfz27_0 := blk_frozen BK308.out 0;have hfz27_1 := blk_frozen BK308.out 1;have hfz27_2 := blk_frozen BK308.out 2;have hfz27_3 := blk_frozen BK308.out 3))
   go_ret
   exact ⟨by first|rfl|(simp [errW_none,errW_some] <;> rfl)|(simp [*,errW_none,errW_some] <;> rfl),by repeat (first|(with_reducible first|exact HB.out|apply below_alloc|apply pw_below_drewN|apply below_drew1|refine below_set ?_ GE308.out)|exact HB.out)⟩

end Go.Proofs.Ythcjcmgdblhhfaa.PU

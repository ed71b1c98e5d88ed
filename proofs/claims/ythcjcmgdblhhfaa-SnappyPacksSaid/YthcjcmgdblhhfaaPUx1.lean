/- The machine side of these statements: what each Go function computes as a plain function, and that its call computes just that. Written by a program of mine (wip/drive.py). No conditions. -/
import Derived.Test.YthcjcmgdblhhfaaPUx0
namespace Go.Proofs.Ythcjcmgdblhhfaa.PU
open Go.RowKit Go.Proofs.YthcjcmgdblhhfaaW.PrintWords Go.Proofs.YthcjcmgdblhhfaaW.PrintLast Go.Proofs.YthcjcmgdblhhfaaW.PrintMore
attribute [local go_sem] max2_int min2_int max_two min_two max_three min_three max_four min_four   -- for this text's walks alone
set_option linter.unusedVariables false
set_option linter.unusedSimpArgs false

/-! ### bits_Uvarint: function 47 -/
mutual
def bits_Uvarint.j0 : Nat → ByteArray → Int → Int → Bool → Option (Int × Int × Int)
 | 0,_,_,_,_=>none
 | k + 1,x0,x1,x4,x16=>if x16 = true then (some (0,0,1)) else (bits_Uvarint.l0 k x0 x1 x4 0)
def bits_Uvarint.l0 : Nat → ByteArray → Int → Int → Int → Option (Int × Int × Int)
 | 0,_,_,_,_=>none
 | k + 1,x0,x1,x4,x7=>if (wrap64 (x1 + x7)) = (x0.size : Int) then (some (0,0,8)) else (if 0 ≤ (wrap64 (x1 + x7)) then (if (wrap64 (x1 + x7)) < (x0.size : Int) then (if x7 = 9 then (bits_Uvarint.j2 k x0 x1 x4 x7 (IntKind.u64.wrap (bt x0 (wrap64 (x1 + x7)))) (decide ((IntKind.u64.wrap (bt x0 (wrap64 (x1 + x7)))) > 1))) else (bits_Uvarint.j2 k x0 x1 x4 x7 (IntKind.u64.wrap (bt x0 (wrap64 (x1 + x7)))) false)) else (none)) else (none))
def bits_Uvarint.j2 : Nat → ByteArray → Int → Int → Int → Int → Bool → Option (Int × Int × Int)
 | 0,_,_,_,_,_,_=>none
 | k + 1,x0,x1,x4,x7,x8,x31=>if x31 = true then (some (0,0,4)) else (if x8 < 128 then (if 0 ≤ (wrap64 (7 * x7)) then (some (Go.bits .or .u64 x4 (shl .u64 x8 (wrap64 (7 * x7))),wrap64 ((wrap64 (x1 + x7)) + 1),0)) else (none)) else (if 0 ≤ (wrap64 (7 * x7)) then (bits_Uvarint.l0 k x0 x1 (Go.bits .or .u64 x4 (shl .u64 (Go.bits .andNot .u64 x8 128) (wrap64 (7 * x7)))) (wrap64 (x7 + 1))) else (none)))
end
def bits_Uvarint.f (k : Nat) (a0 : ByteArray) (a1 : Int) : Option (Int × Int × Int) := if a1 < 0 then (bits_Uvarint.j0 k a0 a1 0 true) else (bits_Uvarint.j0 k a0 a1 0 (decide (a1 > (a0.size : Int))))
theorem bits_Uvarint.mono_l : ∀ k, (∀ y0 y1 y2 y3, LeO (bits_Uvarint.j0 k y0 y1 y2 y3) (bits_Uvarint.j0 (k + 1) y0 y1 y2 y3)) ∧ (∀ y0 y1 y2 y3, LeO (bits_Uvarint.l0 k y0 y1 y2 y3) (bits_Uvarint.l0 (k + 1) y0 y1 y2 y3)) ∧ (∀ y0 y1 y2 y3 y4 y5, LeO (bits_Uvarint.j2 k y0 y1 y2 y3 y4 y5) (bits_Uvarint.j2 (k + 1) y0 y1 y2 y3 y4 y5))
 | 0=>⟨fun _ _ _ _ r h=>by simp [bits_Uvarint.j0] at h,fun _ _ _ _ r h=>by simp [bits_Uvarint.l0] at h,fun _ _ _ _ _ _ r h=>by simp [bits_Uvarint.j2] at h⟩
 | k + 1=>by
  obtain ⟨ih0,ih1,ih2⟩ := bits_Uvarint.mono_l k
  refine ⟨?_,?_,?_⟩
  ·intro y0 y1 y2 y3
   unfold bits_Uvarint.j0
   repeat' first
   | (with_reducible exact ih0 _ _ _ _)
   | (with_reducible exact ih1 _ _ _ _)
   | (with_reducible exact ih2 _ _ _ _ _ _)
   | (with_reducible exact LeO.refl _)
   | (with_reducible exact LeO.none _)
   | (with_reducible refine LeO.ite ?_ ?_)
   | (with_reducible refine LeO.bind ?_ (fun _=>?_))
   | exact ih0 _ _ _ _
   | exact ih1 _ _ _ _
   | exact ih2 _ _ _ _ _ _
   | exact LeO.none _
   | refine LeO.ite ?_ ?_
   | refine LeO.bind ?_ (fun _=>?_)
  ·intro y0 y1 y2 y3
   unfold bits_Uvarint.l0
   repeat' first
   | (with_reducible exact ih0 _ _ _ _)
   | (with_reducible exact ih1 _ _ _ _)
   | (with_reducible exact ih2 _ _ _ _ _ _)
   | (with_reducible exact LeO.refl _)
   | (with_reducible exact LeO.none _)
   | (with_reducible refine LeO.ite ?_ ?_)
   | (with_reducible refine LeO.bind ?_ (fun _=>?_))
   | exact ih0 _ _ _ _
   | exact ih1 _ _ _ _
   | exact ih2 _ _ _ _ _ _
   | exact LeO.none _
   | refine LeO.ite ?_ ?_
   | refine LeO.bind ?_ (fun _=>?_)
  ·intro y0 y1 y2 y3 y4 y5
   unfold bits_Uvarint.j2
   repeat' first
   | (with_reducible exact ih0 _ _ _ _)
   | (with_reducible exact ih1 _ _ _ _)
   | (with_reducible exact ih2 _ _ _ _ _ _)
   | (with_reducible exact LeO.refl _)
   | (with_reducible exact LeO.none _)
   | (with_reducible refine LeO.ite ?_ ?_)
   | (with_reducible refine LeO.bind ?_ (fun _=>?_))
   | exact ih0 _ _ _ _
   | exact ih1 _ _ _ _
   | exact ih2 _ _ _ _ _ _
   | exact LeO.none _
   | refine LeO.ite ?_ ?_
   | refine LeO.bind ?_ (fun _=>?_)
theorem bits_Uvarint.mono : ∀ a0 a1 k, LeO (bits_Uvarint.f k a0 a1) (bits_Uvarint.f (k + 1) a0 a1) := by
 intro a0 a1 k
 obtain ⟨ih0,ih1,ih2⟩ := bits_Uvarint.mono_l k
 unfold bits_Uvarint.f
 repeat' first
   | (with_reducible exact ih0 _ _ _ _)
   | (with_reducible exact ih1 _ _ _ _)
   | (with_reducible exact ih2 _ _ _ _ _ _)
   | (with_reducible exact LeO.refl _)
   | (with_reducible exact LeO.none _)
   | (with_reducible refine LeO.ite ?_ ?_)
   | (with_reducible refine LeO.bind ?_ (fun _=>?_))
   | exact ih0 _ _ _ _
   | exact ih1 _ _ _ _
   | exact ih2 _ _ _ _ _ _
   | exact LeO.none _
   | refine LeO.ite ?_ ?_
   | refine LeO.bind ?_ (fun _=>?_)
set_option maxHeartbeats 8000000 in
set_option maxRecDepth 100000 in
theorem bits_Uvarint.calls (k : Nat) (a0 : ByteArray) (a1 : Int) (r1 : Int) (r2 : Int) (r3 : Int) (w : World) (h : bits_Uvarint.f k a0 a1 = some (r1, r2, r3)) :
  Calls Try.prog 47 #[.string a0,.int .i64 a1] w fun e w'=>e = .returned (.tuple #[.int .u64 r1,.int .i64 r2,.int .i64 r3]) ∧ Drawn0 w w' := by
 have H : (if a1 < 0 then (bits_Uvarint.j0 k a0 a1 0 true) else (bits_Uvarint.j0 k a0 a1 0 (decide (a1 > (a0.size : Int))))) = some (r1,r2,r3) := h
 clear h
 have HC3 := Aside0.mk H
 clear H
 go_enter Try.func47,Try.ntmps47
 go_wp2_with fail
 go_step3
 go_upto_region 1 with (fail)
 go_cut [16] (fun v16 wc=>∃ (kq : Nat) (x16_2 : Bool),v16 = .bool x16_2 ∧ Aside0 (bits_Uvarint.j0 kq a0 a1 0 x16_2 = some (r1,r2,r3)) ∧ Aside0 (kq ≤ k) ∧ Drawn0 w wc)
 case first =>
  have H := HC3.out
  clear HC3
  by_cases c4 : a1 < 0
  ·rw [if_pos c4] at H
   have c4b0 : decide (a1 < 0) = true := decide_eq_true c4
   clear c4
   (first|rw [c4b0]|(simp only [i64_w,i32_w];rw [c4b0])|skip)
   have H' := Aside0.mk H
   clear H
   go_wp2
   go_meet
   case rel=>exact ⟨_,(true),(by first|rfl|(simp;done)|(simp [*];done)),H',⟨by first|omega|exact Nat.le_refl _⟩,by repeat (first|exact Drawn0.refl _|apply Drawn0.step)⟩
  ·rw [if_neg c4] at H
   have c4b0 : decide (a1 < 0) = false := decide_eq_false c4
   clear c4
   (first|rw [c4b0]|(simp only [i64_w,i32_w];rw [c4b0])|skip)
   have H' := Aside0.mk H
   clear H
   go_wp2
   go_meet
   case rel=>exact ⟨_,(decide (a1 > (a0.size : Int))),(by first|rfl|(simp;done)|(simp [*];done)),H',⟨by first|omega|exact Nat.le_refl _⟩,by repeat (first|exact Drawn0.refl _|apply Drawn0.step)⟩
 case rest =>
  clear HC3
  try clear p2
  try clear c4
  try clear c4b0
  obtain ⟨kq,x16_2,rfl,HA,HJ2,⟨mc2,rfl⟩⟩ := hcut
  cases kq with
  | zero=>exact absurd HA.out (by simp [bits_Uvarint.j0])
  | succ kj2 =>
   have H := HA.out
   clear HA
   simp only [bits_Uvarint.j0] at H
   by_cases c5 : x16_2 = true
   ·subst c5
    have H1 : (some (0,0,1)) = some (r1,r2,r3) := by rw [if_pos rfl] at H;exact H
    clear H
    have H := H1
    clear H1
    simp only [Option.some.injEq,Prod.mk.injEq] at H
    obtain ⟨rfl,rfl,rfl⟩ := H
    go_wp2
    (try rw [Exit.noGoto_ret])
    go_ret3
    exact ⟨by first|rfl|(simp;done)|(simp [*];done),by repeat (first|exact Drawn0.refl _|apply Drawn0.step)⟩
   ·replace c5 := Bool.eq_false_iff.mpr c5
    subst c5
    have H1 : (bits_Uvarint.l0 kj2 a0 a1 0 0) = some (r1,r2,r3) := by rw [if_neg (show ¬ (false = true) by decide)] at H;exact H
    clear H
    have H := H1
    clear H1
    have H' := Aside0.mk H
    clear H
    go_wp2
    go_step3
    go_wp2
    go_loopg [4,7] kj2 (fun kq v4 v7 w'=>∃ (x4_2 : Int) (x7_2 : Int),v4 = .int .u64 x4_2 ∧ v7 = .int .i64 x7_2 ∧ Aside0 (bits_Uvarint.l0 kq a0 a1 x4_2 x7_2 = some (r1,r2,r3)) ∧ Aside0 (kq ≤ kj2) ∧ Drawn0 w w')
    case atStart=>exact ⟨(0),(0),(by first|rfl|(simp;done)|(simp [*];done)),(by first|rfl|(simp;done)|(simp [*];done)),H',⟨Nat.le_refl _⟩,by repeat (first|exact Drawn0.refl _|apply Drawn0.step)⟩
    case round =>
     clear H'
     try clear c2
     try clear p2
     try clear c4
     try clear c4b0
     try clear c5
     try clear p2
     obtain ⟨x4_2,x7_2,rfl,rfl,HA,HK2,⟨m2,rfl⟩⟩ := hrel
     cases gk with
     | zero=>exact absurd HA.out (by simp [bits_Uvarint.l0])
     | succ k2 =>
      have H := HA.out
      clear HA
      simp only [bits_Uvarint.l0] at H
      by_cases c6 : (wrap64 (a1 + x7_2)) = (a0.size : Int)
      ·rw [if_pos c6] at H
       have c6b0 : ((wrap64 (a1 + x7_2)) == (a0.size : Int)) = true := beq_iff_eq.mpr c6
       have c6b1 : ((wrap64 (a1 + x7_2)) != (a0.size : Int)) = false := bne_eq_false_iff_eq.mpr c6
       clear c6
       simp only [Option.some.injEq,Prod.mk.injEq] at H
       obtain ⟨rfl,rfl,rfl⟩ := H
       go_wp2
       (try rw [Exit.noGoto_ret])
       go_ret3
       exact ⟨by first|rfl|(simp;done)|(simp [*];done),by repeat (first|exact Drawn0.refl _|apply Drawn0.step)⟩
      ·rw [if_neg c6] at H
       have c6b0 : ((wrap64 (a1 + x7_2)) == (a0.size : Int)) = false := beq_eq_false_iff_ne.mpr c6
       have c6b1 : ((wrap64 (a1 + x7_2)) != (a0.size : Int)) = true := bne_iff_ne.mpr c6
       obtain ⟨ji7,hji7⟩ : ∃ j_ : Int,(wrap64 (a1 + x7_2)) = j_ := ⟨_,rfl⟩
       replace H : (if 0 ≤ (ji7) then (if (ji7) < (a0.size : Int) then (if x7_2 = 9 then (bits_Uvarint.j2 k2 a0 a1 x4_2 x7_2 (IntKind.u64.wrap (bt a0 (ji7))) (decide ((IntKind.u64.wrap (bt a0 (ji7))) > 1))) else (bits_Uvarint.j2 k2 a0 a1 x4_2 x7_2 (IntKind.u64.wrap (bt a0 (ji7))) false)) else (none)) else (none)) = some (r1,r2,r3) := by first|(rw [hji7] at H;exact H)|(simp only [hji7] at H ⊢;exact H)
       (try rw [hji7] at c6b0)
       (try rw [hji7] at c6b1)
       have hji7w : (IntKind.i64.wrap (a1 + x7_2)) = ji7 := (i64_w _).trans hji7
       by_cases c8 : 0 ≤ (ji7)
       ·rw [if_pos c8] at H
        have c8b0 : decide (0 ≤ (ji7)) = true := decide_eq_true c8
        clear c8
        by_cases c9 : (ji7) < (a0.size : Int)
        ·rw [if_pos c9] at H
         have c9b0 : decide ((ji7) < (a0.size : Int)) = true := decide_eq_true c9
         clear c9
         have HC11 := Aside0.mk H
         clear H
         have p10 : 0 ≤ ((ji7) : Int) := of_decide_eq_true (by first|(with_reducible assumption)|assumption)
         have q10 : (ji7) < (a0.size : Int) := of_decide_eq_true (by first|(with_reducible assumption)|assumption)
         have hx10 := bt_at a0 (ji7)
         replace p10 := eq_true p10
         replace q10 := eq_true q10
         go_upto_region 8 with (fail)
         go_cut [31] (fun v31 wc=>∃ (kq : Nat) (x31_10 : Bool),v31 = .bool x31_10 ∧ Aside0 (bits_Uvarint.j2 kq a0 a1 x4_2 x7_2 (IntKind.u64.wrap (bt a0 (ji7))) x31_10 = some (r1,r2,r3)) ∧ Aside0 (kq ≤ k2) ∧ Drawn0 w wc)
         case first =>
          have H := HC11.out
          clear HC11
          by_cases c12 : x7_2 = 9
          ·rw [if_pos c12] at H
           have c12b0 : (x7_2 == 9) = true := beq_iff_eq.mpr c12
           have c12b1 : (x7_2 != 9) = false := bne_eq_false_iff_eq.mpr c12
           clear c12
           (first|rw [c12b0]|(simp only [i64_w,i32_w];rw [c12b0])|skip)
           have H' := Aside0.mk H
           clear H
           go_wp2
           go_meet
           case rel=>exact ⟨_,(decide ((IntKind.u64.wrap (bt a0 (ji7))) > 1)),(by first|rfl|(simp;done)|(simp only [← hji7] <;> (first|rfl|simp))|(simp [*];done)),H',⟨by have := HJ2.out;have := HK2.out;first|omega|exact Nat.le_refl _⟩,by repeat (first|exact Drawn0.refl _|apply Drawn0.step)⟩
          ·rw [if_neg c12] at H
           have c12b0 : (x7_2 == 9) = false := beq_eq_false_iff_ne.mpr c12
           have c12b1 : (x7_2 != 9) = true := bne_iff_ne.mpr c12
           (first|rw [c12b0]|(simp only [i64_w,i32_w];rw [c12b0])|skip)
           have H' := Aside0.mk H
           clear H
           go_wp2
           go_meet
           case rel=>exact ⟨_,(false),(by first|rfl|(simp;done)|(simp [*];done)),H',⟨by have := HJ2.out;have := HK2.out;first|omega|exact Nat.le_refl _⟩,by repeat (first|exact Drawn0.refl _|apply Drawn0.step)⟩
         case rest =>
          clear HC11
          try clear c1
          try clear p1
          try clear q1
          try clear hx1
          try clear c2
          try clear p2
          try clear c4
          try clear c4b0
          try clear c5
          try clear c6
          try clear c6b0
          try clear c6b1
          try clear p6
          try clear c8
          try clear c8b0
          try clear c9
          try clear c9b0
          try clear p10
          try clear q10
          try clear hx10
          try clear c12
          try clear c12b0
          try clear c12b1
          try clear p10
          try clear p2
          try clear q10
          obtain ⟨kq,x31_10,rfl,HA,HJ10,⟨mc10,rfl⟩⟩ := hcut
          cases kq with
          | zero=>exact absurd HA.out (by simp [bits_Uvarint.j2])
          | succ kj10 =>
           have H := HA.out
           clear HA
           simp only [bits_Uvarint.j2] at H
           by_cases c13 : x31_10 = true
           ·subst c13
            have H1 : (some (0,0,4)) = some (r1,r2,r3) := by rw [if_pos rfl] at H;exact H
            clear H
            have H := H1
            clear H1
            simp only [Option.some.injEq,Prod.mk.injEq] at H
            obtain ⟨rfl,rfl,rfl⟩ := H
            go_wp2
            (try rw [Exit.noGoto_ret])
            go_ret3
            exact ⟨by first|rfl|(simp;done)|(simp only [← hji7] <;> (first|rfl|simp))|(simp [*];done),by repeat (first|exact Drawn0.refl _|apply Drawn0.step)⟩
           ·replace c13 := Bool.eq_false_iff.mpr c13
            subst c13
            have H1 : (if (IntKind.u64.wrap (bt a0 (ji7))) < 128 then (if 0 ≤ (wrap64 (7 * x7_2)) then (some (Go.bits .or .u64 x4_2 (shl .u64 (IntKind.u64.wrap (bt a0 (ji7))) (wrap64 (7 * x7_2))),wrap64 ((wrap64 (a1 + x7_2)) + 1),0)) else (none)) else (if 0 ≤ (wrap64 (7 * x7_2)) then (bits_Uvarint.l0 kj10 a0 a1 (Go.bits .or .u64 x4_2 (shl .u64 (Go.bits .andNot .u64 (IntKind.u64.wrap (bt a0 (ji7))) 128) (wrap64 (7 * x7_2)))) (wrap64 (x7_2 + 1))) else (none))) = some (r1,r2,r3) := by rw [if_neg (show ¬ (false = true) by decide)] at H;exact H
            clear H
            have H := H1
            clear H1
            by_cases c14 : (IntKind.u64.wrap (bt a0 (ji7))) < 128
            ·rw [if_pos c14] at H
             have c14b0 : decide ((IntKind.u64.wrap (bt a0 (ji7))) < 128) = true := decide_eq_true c14
             clear c14
             obtain ⟨ji15,hji15⟩ : ∃ j_ : Int,(wrap64 (7 * x7_2)) = j_ := ⟨_,rfl⟩
             replace H : (if 0 ≤ (ji15) then (some (Go.bits .or .u64 x4_2 (shl .u64 (IntKind.u64.wrap (bt a0 (ji7))) (ji15)),wrap64 ((wrap64 (a1 + x7_2)) + 1),0)) else (none)) = some (r1,r2,r3) := by first|(rw [hji15] at H;exact H)|(simp only [hji15] at H ⊢;exact H)
             have hji15w : (IntKind.i64.wrap (7 * x7_2)) = ji15 := (i64_w _).trans hji15
             by_cases c16 : 0 ≤ (ji15)
             ·rw [if_pos c16] at H
              have c16b0 := eq_true c16
              have c16b1 : decide (0 ≤ (ji15)) = true := decide_eq_true c16
              clear c16
              obtain ⟨ji17,hji17⟩ : ∃ j_ : Int,(shl .u64 (IntKind.u64.wrap (bt a0 (ji7))) (ji15)) = j_ := ⟨_,rfl⟩
              replace H : (some (Go.bits .or .u64 x4_2 (ji17),wrap64 ((wrap64 (a1 + x7_2)) + 1),0)) = some (r1,r2,r3) := by first|(rw [hji17] at H;exact H)|(simp only [hji17] at H ⊢;exact H)
              have hji17_ : (IntKind.u64.wrap ((IntKind.u64.wrap (bt a0 (ji7))) * 2 ^ min (ji15).toNat 64)) = ji17 := hji17
              have hji17z : (ji15) ≤ 64 → (IntKind.u64.wrap ((IntKind.u64.wrap (bt a0 (ji7))) * 2 ^ (ji15).toNat)) = ji17 := shl_small hji17
              simp only [Option.some.injEq,Prod.mk.injEq] at H
              obtain ⟨rfl,rfl,rfl⟩ := H
              go_wp2
              (try rw [Exit.noGoto_ret])
              go_ret3
              exact ⟨by first|rfl|(simp;done)|(simp only [← hji7,← hji15,← hji17] <;> (first|rfl|simp))|(simp [*];done),by repeat (first|exact Drawn0.refl _|apply Drawn0.step)⟩
             ·rw [if_neg c16] at H
              exact absurd H (by simp)
            ·rw [if_neg c14] at H
             have c14b0 : decide ((IntKind.u64.wrap (bt a0 (ji7))) < 128) = false := decide_eq_false c14
             clear c14
             obtain ⟨ji18,hji18⟩ : ∃ j_ : Int,(wrap64 (7 * x7_2)) = j_ := ⟨_,rfl⟩
             replace H : (if 0 ≤ (ji18) then (bits_Uvarint.l0 kj10 a0 a1 (Go.bits .or .u64 x4_2 (shl .u64 (Go.bits .andNot .u64 (IntKind.u64.wrap (bt a0 (ji7))) 128) (ji18))) (wrap64 (x7_2 + 1))) else (none)) = some (r1,r2,r3) := by first|(rw [hji18] at H;exact H)|(simp only [hji18] at H ⊢;exact H)
             have hji18w : (IntKind.i64.wrap (7 * x7_2)) = ji18 := (i64_w _).trans hji18
             by_cases c19 : 0 ≤ (ji18)
             ·rw [if_pos c19] at H
              have c19b0 := eq_true c19
              have c19b1 : decide (0 ≤ (ji18)) = true := decide_eq_true c19
              clear c19
              obtain ⟨ji20,hji20⟩ : ∃ j_ : Int,(shl .u64 (Go.bits .andNot .u64 (IntKind.u64.wrap (bt a0 (ji7))) 128) (ji18)) = j_ := ⟨_,rfl⟩
              replace H : (bits_Uvarint.l0 kj10 a0 a1 (Go.bits .or .u64 x4_2 (ji20)) (wrap64 (x7_2 + 1))) = some (r1,r2,r3) := by first|(rw [hji20] at H;exact H)|(simp only [hji20] at H ⊢;exact H)
              have hji20_ : (IntKind.u64.wrap ((Go.bits .andNot .u64 (IntKind.u64.wrap (bt a0 (ji7))) 128) * 2 ^ min (ji18).toNat 64)) = ji20 := hji20
              have hji20z : (ji18) ≤ 64 → (IntKind.u64.wrap ((Go.bits .andNot .u64 (IntKind.u64.wrap (bt a0 (ji7))) 128) * 2 ^ (ji18).toNat)) = ji20 := shl_small hji20
              have H' := Aside0.mk H
              clear H
              go_wp2
              go_roundg kj10
              case measure=>have := HJ2.out;have := HK2.out;have := HJ10.out;omega
              case rel=>exact ⟨(Go.bits .or .u64 x4_2 (ji20)),(wrap64 (x7_2 + 1)),(by first|rfl|(simp;done)|(simp only [← hji20] <;> (first|rfl|simp))|(simp [*];done)),(by first|rfl|(simp;done)|(simp [*];done)),H',⟨by have := HJ2.out;have := HK2.out;have := HJ10.out;omega⟩,by repeat (first|exact Drawn0.refl _|apply Drawn0.step)⟩
             ·rw [if_neg c19] at H
              exact absurd H (by simp)
        ·rw [if_neg c9] at H
         exact absurd H (by simp)
       ·rw [if_neg c8] at H
        exact absurd H (by simp)

/-! ### snappy_Size: function 27 -/
def snappy_Size.f (k : Nat) (a0 : ByteArray) : Option (Int × Int) := (bits_Uvarint.f k a0 0).bind fun bt101 => (if bt101.2.2 = 0 then (if bt101.1 ≥ 4294967296 then (some (0, 4)) else (some (bt101.1, 0))) else (some (0, bt101.2.2)))
theorem snappy_Size.mono : ∀ a0 k, LeO (snappy_Size.f k a0) (snappy_Size.f (k + 1) a0) := by
 intro a0 k
 unfold snappy_Size.f
 repeat' first
   | (with_reducible exact bits_Uvarint.mono _ _ _)
   | (with_reducible exact LeO.refl _)
   | (with_reducible exact LeO.none _)
   | (with_reducible refine LeO.ite ?_ ?_)
   | (with_reducible refine LeO.bind ?_ (fun _=>?_))
   | exact bits_Uvarint.mono _ _ _
   | exact LeO.none _
   | refine LeO.ite ?_ ?_
   | refine LeO.bind ?_ (fun _=>?_)
set_option maxHeartbeats 8000000 in
set_option maxRecDepth 100000 in
theorem snappy_Size.calls (k : Nat) (a0 : ByteArray) (r1 : Int) (r2 : Int) (w : World) (h : snappy_Size.f k a0 = some (r1, r2)) :
  Calls Try.prog 27 #[.string a0] w fun e w'=>e = .returned (.tuple #[.int .u64 r1,.int .i64 r2]) ∧ Drawn0 w w' := by
 have H : ((bits_Uvarint.f k a0 0).bind fun bt101=>(if bt101.2.2 = 0 then (if bt101.1 ≥ 4294967296 then (some (0,4)) else (some (bt101.1,0))) else (some (0,bt101.2.2)))) = some (r1,r2) := h
 clear h
 replace H := Option.bind_eq_some_iff.mp H
 obtain ⟨⟨t101,t102,t103⟩,A20,H⟩ := H
 replace H : (if t103 = 0 then (if t101 ≥ 4294967296 then (some (0,4)) else (some (t101,0))) else (some (0,t103))) = some (r1,r2) := H
 have A2 := Aside0.mk A20
 clear A20
 by_cases c3 : t103 = 0
 ·rw [if_pos c3] at H
  have c3b0 : (t103 == 0) = true := beq_iff_eq.mpr c3
  have c3b1 : (t103 != 0) = false := bne_eq_false_iff_eq.mpr c3
  clear c3
  by_cases c4 : t101 ≥ 4294967296
  ·rw [if_pos c4] at H
   have c4b0 : decide (4294967296 ≤ t101) = true := decide_eq_true c4
   clear c4
   simp only [Option.some.injEq,Prod.mk.injEq] at H
   obtain ⟨rfl,rfl⟩ := H
   go_enter Try.func27,Try.ntmps27
   go_wp2_with (first|((with_reducible refine gate_callee (f := 47) rfl ?_);refine goesL_ (some 9) rfl rfl Try.func47 (by kernel_rfl) rfl #[.string a0,.int .i64 0] rfl (by (try simp only [List.map_toArray,List.map_cons,List.map_nil]);first|done|rfl|(simp only [List.length_drop,List.length_take];rfl)) ?_;(with_reducible refine (bits_Uvarint.calls k a0 0 t101 t102 t103 _ A2.out).mono ?_);rintro e w' ⟨rfl,⟨nd,rfl⟩⟩;refine ⟨_,rfl,?_⟩))
   go_ret2
   exact ⟨by first|rfl|(simp;done)|(simp [*];done),by repeat (first|exact Drawn0.refl _|apply Drawn0.step)⟩
  ·rw [if_neg c4] at H
   have c4b0 : decide (4294967296 ≤ t101) = false := decide_eq_false c4
   clear c4
   simp only [Option.some.injEq,Prod.mk.injEq] at H
   obtain ⟨rfl,rfl⟩ := H
   go_enter Try.func27,Try.ntmps27
   go_wp2_with (first|((with_reducible refine gate_callee (f := 47) rfl ?_);refine goesL_ (some 9) rfl rfl Try.func47 (by kernel_rfl) rfl #[.string a0,.int .i64 0] rfl (by (try simp only [List.map_toArray,List.map_cons,List.map_nil]);first|done|rfl|(simp only [List.length_drop,List.length_take];rfl)) ?_;(with_reducible refine (bits_Uvarint.calls k a0 0 t101 t102 t103 _ A2.out).mono ?_);rintro e w' ⟨rfl,⟨nd,rfl⟩⟩;refine ⟨_,rfl,?_⟩))
   go_ret2
   exact ⟨by first|rfl|(simp;done)|(simp [*];done),by repeat (first|exact Drawn0.refl _|apply Drawn0.step)⟩
 ·rw [if_neg c3] at H
  have c3b0 : (t103 == 0) = false := beq_eq_false_iff_ne.mpr c3
  have c3b1 : (t103 != 0) = true := bne_iff_ne.mpr c3
  simp only [Option.some.injEq,Prod.mk.injEq] at H
  obtain ⟨rfl,rfl⟩ := H
  go_enter Try.func27,Try.ntmps27
  go_wp2_with (first|((with_reducible refine gate_callee (f := 47) rfl ?_);refine goesL_ (some 9) rfl rfl Try.func47 (by kernel_rfl) rfl #[.string a0,.int .i64 0] rfl (by (try simp only [List.map_toArray,List.map_cons,List.map_nil]);first|done|rfl|(simp only [List.length_drop,List.length_take];rfl)) ?_;(with_reducible refine (bits_Uvarint.calls k a0 0 t101 t102 t103 _ A2.out).mono ?_);rintro e w' ⟨rfl,⟨nd,rfl⟩⟩;refine ⟨_,rfl,?_⟩))
  go_ret2
  exact ⟨by first|rfl|(simp;done)|(simp [*];done),by repeat (first|exact Drawn0.refl _|apply Drawn0.step)⟩

/-- A state of type 81 at block g of W; what its slices lead to came in by w0. -/
def IsS81 (w0 W : World) (g : Nat) (f0 : ByteArray) (f1 : Int) (f2 : Int) : Prop := W.heap[g]? = some (.cells #[.string f0, .int .i64 f1, .int .i64 f2] 81 (0, 0)) ∧ w0.heap.size ≤ g
theorem IsS81.grown {w0 W : World} {g : Nat} {f0 : ByteArray} {f1 : Int} {f2 : Int} {W1 : World} {row : Option Nat} (h : IsS81 w0 W g f0 f1 f2) (hw : W.grownBy W1 row) (hne : some g ≠ row) : IsS81 w0 W1 g f0 f1 f2 := by
 obtain ⟨hb,hg⟩ := h
 exact ⟨blk_grown hb hw hne,hg⟩
theorem IsS81.own_neN {w0 W : World} {g : Nat} {f0 : ByteArray} {f1 : Int} {f2 : Int} {α : Type} {d : Kd α} {e : Nat} {base : Nat} {ok : Nat → Prop} {v : Value} {xs : List α} (h : IsS81 w0 W g f0 f1 f2) (ho : Kd.N d e W base ok v xs) (ht : e ≠ 81) : some g ≠ v.ownBlock := by
 obtain ⟨hb,hg⟩ := h
 exact Kd.N_ne ho hb ht
theorem IsS81.fresh {w0 W : World} {g : Nat} {f0 : ByteArray} {f1 : Int} {f2 : Int} (h : IsS81 w0 W g f0 f1 f2) : ∀ k, W.heap.size ≤ k → k ≠ g := by
 obtain ⟨hb,hg⟩ := h
 exact Kd.freshB hb
theorem IsS81.kept {w0 W : World} {g : Nat} {f0 : ByteArray} {f1 : Int} {f2 : Int} {W1 : World} {S : Nat → Prop} (h : IsS81 w0 W g f0 f1 f2) (hk : Kept W W1 S) (hne : ¬ S g) : IsS81 w0 W1 g f0 f1 f2 := by
 obtain ⟨hb,hg⟩ := h
 exact ⟨blk_kept hb hk hne,hg⟩
theorem IsS81.below {w0 W : World} {g : Nat} {f0 : ByteArray} {f1 : Int} {f2 : Int} {W1 : World} (h : IsS81 w0 W g f0 f1 f2) (hw : Below W.heap.size W W1) : IsS81 w0 W1 g f0 f1 f2 := h.grown (grown_of_below hw none) (by simp)
theorem IsS81.alloc {w0 W : World} {g : Nat} {f0 : ByteArray} {f1 : Int} {f2 : Int} (h : IsS81 w0 W g f0 f1 f2) (o : Obj) : IsS81 w0 (W.alloc o) g f0 f1 f2 := h.below (below_alloc (Below.refl _ _) o)
theorem IsS81.drewN {w0 W : World} {g : Nat} {f0 : ByteArray} {f1 : Int} {f2 : Int} (h : IsS81 w0 W g f0 f1 f2) (m : Nat) : IsS81 w0 (W.drewN m) g f0 f1 f2 := h
theorem IsS81.drew {w0 W : World} {g : Nat} {f0 : ByteArray} {f1 : Int} {f2 : Int} (h : IsS81 w0 W g f0 f1 f2) : IsS81 w0 W.drew g f0 f1 f2 := h
theorem IsS81.at_ {w0 W : World} {g : Nat} {f0 : ByteArray} {f1 : Int} {f2 : Int} {w' : World} {m : Nat} (hq : W.drewN m = w') (h : IsS81 w0 W g f0 f1 f2) : IsS81 w0 w' g f0 f1 f2 := by subst hq; exact IsS81.drewN h m
theorem IsS81.apart {w0 W : World} {g : Nat} {f0 : ByteArray} {f1 : Int} {f2 : Int} {α : Type} {d : Kd α} {e : Nat} {base : Nat} {ok : Nat → Prop} {v : Value} {xs : List α} (h : IsS81 w0 W g f0 f1 f2) (ho : d.R e W base ok v xs) (ht : ∀ q, q ∈ e :: d.E → q ≠ 81) : d.R e W base (fun k => ok k ∧ k ≠ g) v xs := by
 obtain ⟨hb,hg⟩ := h
 exact Kd.R_types ho hb ht
theorem IsS81.own_ne {w0 W : World} {g : Nat} {f0 : ByteArray} {f1 : Int} {f2 : Int} {α : Type} {d : Kd α} {e : Nat} {base : Nat} {ok : Nat → Prop} {v : Value} {xs : List α} (h : IsS81 w0 W g f0 f1 f2) (ho : d.R e W base ok v xs) (ht : e ≠ 81) : some g ≠ v.ownBlock := by
 obtain ⟨hb,hg⟩ := h
 exact Kd.R_ne ho hb ht
theorem IsS81.apartQ {w0 W : World} {g : Nat} {f0 : ByteArray} {f1 : Int} {f2 : Int} {α : Type} {d : Kd α} {e : Nat} {base : Nat} {ok : Nat → Prop} {v : Value} {xs : List α} (h : IsS81 w0 W g f0 f1 f2) (ho : d.Q e W base ok v xs) (ht : ∀ q, q ∈ e :: d.E → q ≠ 81) : d.Q e W base (fun k => ok k ∧ k ≠ g) v xs := by
 obtain ⟨hb,hg⟩ := h
 exact Kd.Q_types ho hb ht
theorem IsS81.own_neQ {w0 W : World} {g : Nat} {f0 : ByteArray} {f1 : Int} {f2 : Int} {α : Type} {d : Kd α} {e : Nat} {base : Nat} {ok : Nat → Prop} {v : Value} {xs : List α} (h : IsS81 w0 W g f0 f1 f2) (ho : d.Q e W base ok v xs) (ht : e ≠ 81) : some g ≠ v.ownBlock := by
 obtain ⟨hb,hg⟩ := h
 exact Kd.Q_ne ho hb ht
theorem IsS81.apartS {w0 W : World} {g : Nat} {f0 : ByteArray} {f1 : Int} {f2 : Int} {α : Type} {d : Kd α} {e : Nat} {base : Nat} {ok : Nat → Prop} {v : Value} {xs : List α} (h : IsS81 w0 W g f0 f1 f2) (ho : d.S e W base ok v xs) (ht : ∀ q, q ∈ e :: d.E → q ≠ 81) : d.S e W base (fun k => ok k ∧ k ≠ g) v xs := by
 obtain ⟨hb,hg⟩ := h
 exact Kd.S_types ho hb ht
theorem IsS81.own_neS {w0 W : World} {g : Nat} {f0 : ByteArray} {f1 : Int} {f2 : Int} {α : Type} {d : Kd α} {e : Nat} {base : Nat} {ok : Nat → Prop} {v : Value} {xs : List α} (h : IsS81 w0 W g f0 f1 f2) (ho : d.S e W base ok v xs) (ht : e ≠ 81) : some g ≠ v.ownBlock := by
 obtain ⟨hb,hg⟩ := h
 exact Kd.S_ne ho hb ht
theorem IsS81.lt {w0 W : World} {g : Nat} {f0 : ByteArray} {f1 : Int} {f2 : Int} (h : IsS81 w0 W g f0 f1 f2) : g < W.heap.size := by
 obtain ⟨hb,hg⟩ := h
 exact blk_lt hb
theorem IsS81.ge {w0 W : World} {g : Nat} {f0 : ByteArray} {f1 : Int} {f2 : Int} (h : IsS81 w0 W g f0 f1 f2) : w0.heap.size ≤ g := by
 obtain ⟨hb,hg⟩ := h
 exact hg
theorem IsS81.ne_blk {w0 W : World} {g : Nat} {f0 : ByteArray} {f1 : Int} {f2 : Int} {a : Nat} {cs : Array Value} {t : TypeId} {fr : Nat × Nat} (h : IsS81 w0 W g f0 f1 f2) (hb2 : W.heap[a]? = some (.cells cs t fr)) (ht : t ≠ 81) : g ≠ a := by
 obtain ⟨hb,hg⟩ := h
 rintro rfl
 rw [hb] at hb2
 injection hb2 with hb2
 injection hb2 with _ ht2
 exact ht ht2.symm
theorem IsS81.far {w0 W : World} {g : Nat} {f0 : ByteArray} {f1 : Int} {f2 : Int} {p : Addr} (h : IsS81 w0 W g f0 f1 f2) (hne : g ≠ p.block) (u : Value) : IsS81 w0 (W.setCell p u) g f0 f1 f2 := by
 obtain ⟨hb,hg⟩ := h
 exact ⟨blk_far hb hne u,hg⟩
theorem cellS81_0 {W : World} {g : Nat} {f0 : ByteArray} {f1 : Int} {f2 : Int} (h : W.heap[g]? = some (.cells #[.string f0, .int .i64 f1, .int .i64 f2] 81 (0, 0))) : W.cell? ⟨g, 0, none⟩ = some (.string f0) := (blk_cell h 0).trans rfl
theorem IsS81.set_0 {w0 W : World} {g : Nat} {f0 : ByteArray} {f1 : Int} {f2 : Int} (h : IsS81 w0 W g f0 f1 f2) (x : ByteArray) : IsS81 w0 (W.setCell ⟨g, 0, none⟩ (.string x)) g x f1 f2 := by
 obtain ⟨hb,hg⟩ := h
 exact ⟨by simpa using blk_set hb 0 (.string x),hg⟩
theorem cellS81_1 {W : World} {g : Nat} {f0 : ByteArray} {f1 : Int} {f2 : Int} (h : W.heap[g]? = some (.cells #[.string f0, .int .i64 f1, .int .i64 f2] 81 (0, 0))) : W.cell? ⟨g, 1, none⟩ = some (.int .i64 f1) := (blk_cell h 1).trans rfl
theorem IsS81.set_1 {w0 W : World} {g : Nat} {f0 : ByteArray} {f1 : Int} {f2 : Int} (h : IsS81 w0 W g f0 f1 f2) (x : Int) : IsS81 w0 (W.setCell ⟨g, 1, none⟩ (.int .i64 x)) g f0 x f2 := by
 obtain ⟨hb,hg⟩ := h
 exact ⟨by simpa using blk_set hb 1 (.int .i64 x),hg⟩
theorem cellS81_2 {W : World} {g : Nat} {f0 : ByteArray} {f1 : Int} {f2 : Int} (h : W.heap[g]? = some (.cells #[.string f0, .int .i64 f1, .int .i64 f2] 81 (0, 0))) : W.cell? ⟨g, 2, none⟩ = some (.int .i64 f2) := (blk_cell h 2).trans rfl
theorem IsS81.set_2 {w0 W : World} {g : Nat} {f0 : ByteArray} {f1 : Int} {f2 : Int} (h : IsS81 w0 W g f0 f1 f2) (x : Int) : IsS81 w0 (W.setCell ⟨g, 2, none⟩ (.int .i64 x)) g f0 f1 x := by
 obtain ⟨hb,hg⟩ := h
 exact ⟨by simpa using blk_set hb 2 (.int .i64 x),hg⟩
theorem IsS81.new (w0 W : World) (f0 : ByteArray) (f1 : Int) (f2 : Int) (hB : Below w0.heap.size w0 W) : IsS81 w0 (W.alloc (.cells #[.string f0, .int .i64 f1, .int .i64 f2] 81)) W.heap.size f0 f1 f2 := ⟨by simpa using heap_alloc_new W _, hB.size⟩

/-! ### bits_New: function 33 -/
def bits_New.f (a0 : ByteArray) : Option (ByteArray × Int × Int) := some (a0, 0, 0)
set_option maxHeartbeats 8000000 in
set_option maxRecDepth 100000 in
theorem bits_New.calls (a0 : ByteArray) (r1 : ByteArray) (r2 : Int) (r3 : Int) (w0 w : World) (hB : Below w0.heap.size w0 w) (h : bits_New.f a0 = some (r1, r2, r3)) :
  Calls Try.prog 33 #[.string a0] w fun e w'=>∃ g_ : Nat,e = .returned (.pointer (some ⟨g_,0,none⟩)) ∧ IsS81 w0 w' g_ r1 r2 r3 ∧ Below w0.heap.size w0 w' ∧ Below w.heap.size w w' := by
 have hu81 := Try.underlying81
 have HBW := Aside0.mk (Below.refl w.heap.size w)
 have HW0 := Aside0.mk hB.size
 have HB := Aside0.mk hB
 clear hB
 have H : (some (a0,0,0)) = some (r1,r2,r3) := h
 clear h
 simp only [Option.some.injEq,Prod.mk.injEq] at H
 obtain ⟨rfl,rfl,rfl⟩ := H
 go_enter Try.func33,Try.ntmps33
 go_wp2_with (first|((with_reducible refine gate_dst (N := 5) rfl ?_);refine box_event ?hg (N := 5) ?hd (cs := #[.string a0,.int .i64 0,.int .i64 0]) (t := 81) ?hr ?_;(case hd=>rfl);(case hg=>rfl);(case hr=>first|(go_simp;done)|(go_simp;rfl)|(go_simp;simp [my_u8w];done));intro gb104 hg w2 hbox hb;have n0_ := Aside0.mk (below_step HBW.out hb);have n1_ := Aside0.mk (below_step (bl_) hb);have n2_ := Aside0.mk (hbox);have n3_ := Aside0.mk ((by rw [hg];exact (below_size (by repeat (first|(with_reducible first|exact HBW.out|apply below_alloc|apply pw_below_drewN|apply below_drew1)|exact HBW.out))) : w.heap.size ≤ gb104));have n4_ := Aside0.mk ((Nat.le_trans HW0.out (by rw [hg];exact (below_size (by repeat (first|(with_reducible first|exact HBW.out|apply below_alloc|apply pw_below_drewN|apply below_drew1)|exact HBW.out))) : w.heap.size ≤ gb104) : w0.heap.size ≤ gb104));clear HBW;clear HB;have HBW := n0_;have HB := n1_;have BK104 := n2_;have GW104 := n3_;have GE104 := n4_;clear n0_ n1_ n2_ n3_ n4_;clear hb hbox hg))
 go_ret
 exact ⟨_,rfl,(show IsS81 w0 _ gb104 a0 0 0 from ⟨by (with_reducible repeat (first|refine blk_drewN ?_ _|refine blk_drew ?_|refine blk_alloc ?_ _));exact BK104.out,GE104.out⟩),by repeat (first|(with_reducible first|exact HB.out|apply below_alloc|apply pw_below_drewN|apply below_drew1|refine below_set ?_ GE104.out)|exact HB.out),by repeat (first|(with_reducible first|exact HBW.out|apply below_alloc|apply pw_below_drewN|apply below_drew1|refine below_set ?_ GW104.out)|exact HBW.out)⟩

/-! ### bits_Reader_good: function 50 -/
def bits_Reader_good.f (s0_0 : ByteArray) (s0_1 : Int) (s0_2 : Int) : Option (Bool × ByteArray × Int × Int) := some ((s0_2 == 0), s0_0, s0_1, s0_2)
set_option maxHeartbeats 8000000 in
set_option maxRecDepth 100000 in
theorem bits_Reader_good.calls (g : Nat) (s0_0 : ByteArray) (s0_1 : Int) (s0_2 : Int) (r1 : Bool) (r2 : ByteArray) (r3 : Int) (r4 : Int) (w0 w : World) (hI : IsS81 w0 w g s0_0 s0_1 s0_2) (hB : Below w0.heap.size w0 w) (h : bits_Reader_good.f s0_0 s0_1 s0_2 = some (r1, r2, r3, r4)) :
  Calls Try.prog 50 #[.pointer (some ⟨g,0,none⟩)] w fun e w'=>e = .returned (.bool r1) ∧ IsS81 w0 w' g r2 r3 r4 ∧ Below w0.heap.size w0 w' ∧ KeepBut w w' g none := by
 have hnil57neq : ∀ (a_ : Addr) (W_ : World),(binOp .neq 57 (.pointer (some a_)) (.pointer none)).run Try.prog W_ = .ok (.bool true) W_ := fun a_ W_=>by first|rfl|(simp [binOp,Op.equal,Op.maxDepth,Op.equalIn,run_underlying Try.underlying57];done)
 have hnil57eql : ∀ (a_ : Addr) (W_ : World),(binOp .eql 57 (.pointer (some a_)) (.pointer none)).run Try.prog W_ = .ok (.bool false) W_ := fun a_ W_=>by first|rfl|(simp [binOp,Op.equal,Op.maxDepth,Op.equalIn,run_underlying Try.underlying57];done)
 have HI0 := Aside0.mk hI
 have HK := Aside0.mk (KeepBut.refl w g none)
 have HL := Aside0.mk hB.size
 clear hI
 have HW0 := Aside0.mk hB.size
 have HB := Aside0.mk hB
 clear hB
 have H : (some ((s0_2 == 0),s0_0,s0_1,s0_2)) = some (r1,r2,r3,r4) := h
 clear h
 simp only [Option.some.injEq,Prod.mk.injEq] at H
 obtain ⟨rfl,rfl,rfl,rfl⟩ := H
 obtain ⟨HGz2,hgz2⟩ := HI0.out
 have hcz2_0 := cellS81_0 HGz2
 have hcz2_1 := cellS81_1 HGz2
 have hcz2_2 := cellS81_2 HGz2
 have hfz2_0 := blk_frozen HGz2 0
 have hfz2_1 := blk_frozen HGz2 1
 have hfz2_2 := blk_frozen HGz2 2
 clear HGz2 hgz2
 go_enter Try.func50,Try.ntmps50
 go_wp2
 go_ret
 exact ⟨by first|rfl|(simp [errW_none,errW_some] <;> rfl)|(simp [*,errW_none,errW_some] <;> rfl),by repeat (first|(with_reducible first|exact HI0.out|apply IsS81.alloc|apply IsS81.drewN|apply IsS81.drew|apply IsS81.set_0|apply IsS81.set_1|apply IsS81.set_2)|exact HI0.out),by repeat (first|(with_reducible first|exact HB.out|apply below_alloc|apply pw_below_drewN|apply below_drew1|refine below_set ?_ (IsS81.ge HI0.out))|exact HB.out),by repeat (first|(with_reducible first|exact HK.out|apply KeepBut.set_|apply keep_drewN|apply keep_drew|apply keep_alloc)|exact HK.out)⟩

/-! ### bits_Reader_take: function 51 -/
def bits_Reader_take.f (s0_0 : ByteArray) (s0_1 : Int) (s0_2 : Int) (a1 : Int) (a2 : Int) : Option (Bool × ByteArray × Int × Int) := if a2 = 0 then (some (true, s0_0, a1, s0_2)) else (some (false, s0_0, s0_1, a2))
set_option maxHeartbeats 8000000 in
set_option maxRecDepth 100000 in
theorem bits_Reader_take.calls (g : Nat) (s0_0 : ByteArray) (s0_1 : Int) (s0_2 : Int) (a1 : Int) (a2 : Int) (r1 : Bool) (r2 : ByteArray) (r3 : Int) (r4 : Int) (w0 w : World) (hI : IsS81 w0 w g s0_0 s0_1 s0_2) (hB : Below w0.heap.size w0 w) (h : bits_Reader_take.f s0_0 s0_1 s0_2 a1 a2 = some (r1, r2, r3, r4)) :
  Calls Try.prog 51 #[.pointer (some ⟨g,0,none⟩),.int .i64 a1,.int .i64 a2] w fun e w'=>e = .returned (.bool r1) ∧ IsS81 w0 w' g r2 r3 r4 ∧ Below w0.heap.size w0 w' ∧ KeepBut w w' g none := by
 have HI0 := Aside0.mk hI
 have HK := Aside0.mk (KeepBut.refl w g none)
 have HL := Aside0.mk hB.size
 clear hI
 have HW0 := Aside0.mk hB.size
 have HB := Aside0.mk hB
 clear hB
 have H : (if a2 = 0 then (some (true,s0_0,a1,s0_2)) else (some (false,s0_0,s0_1,a2))) = some (r1,r2,r3,r4) := h
 clear h
 by_cases c4 : a2 = 0
 ·rw [if_pos c4] at H
  have c4b0 : (a2 == 0) = true := beq_iff_eq.mpr c4
  have c4b1 : (a2 != 0) = false := bne_eq_false_iff_eq.mpr c4
  clear c4
  simp only [Option.some.injEq,Prod.mk.injEq] at H
  obtain ⟨rfl,rfl,rfl,rfl⟩ := H
  obtain ⟨HGz5,hgz5⟩ := HI0.out
  have hcz5_0 := cellS81_0 HGz5
  have hcz5_1 := cellS81_1 HGz5
  have hcz5_2 := cellS81_2 HGz5
  have hfz5_0 := blk_frozen HGz5 0
  have hfz5_1 := blk_frozen HGz5 1
  have hfz5_2 := blk_frozen HGz5 2
  clear HGz5 hgz5
  go_enter Try.func51,Try.ntmps51
  go_wp2
  go_ret
  exact ⟨by first|rfl|(simp [errW_none,errW_some] <;> rfl)|(simp [*,errW_none,errW_some] <;> rfl),by repeat (first|(with_reducible first|exact HI0.out|apply IsS81.alloc|apply IsS81.drewN|apply IsS81.drew|apply IsS81.set_0|apply IsS81.set_1|apply IsS81.set_2)|exact HI0.out),by repeat (first|(with_reducible first|exact HB.out|apply below_alloc|apply pw_below_drewN|apply below_drew1|refine below_set ?_ (IsS81.ge HI0.out))|exact HB.out),by repeat (first|(with_reducible first|exact HK.out|apply KeepBut.set_|apply keep_drewN|apply keep_drew|apply keep_alloc)|exact HK.out)⟩
 ·rw [if_neg c4] at H
  have c4b0 : (a2 == 0) = false := beq_eq_false_iff_ne.mpr c4
  have c4b1 : (a2 != 0) = true := bne_iff_ne.mpr c4
  simp only [Option.some.injEq,Prod.mk.injEq] at H
  obtain ⟨rfl,rfl,rfl,rfl⟩ := H
  obtain ⟨HGz6,hgz6⟩ := HI0.out
  have hcz6_0 := cellS81_0 HGz6
  have hcz6_1 := cellS81_1 HGz6
  have hcz6_2 := cellS81_2 HGz6
  have hfz6_0 := blk_frozen HGz6 0
  have hfz6_1 := blk_frozen HGz6 1
  have hfz6_2 := blk_frozen HGz6 2
  clear HGz6 hgz6
  go_enter Try.func51,Try.ntmps51
  go_wp2
  go_ret
  exact ⟨by first|rfl|(simp [errW_none,errW_some] <;> rfl)|(simp [*,errW_none,errW_some] <;> rfl),by repeat (first|(with_reducible first|exact HI0.out|apply IsS81.alloc|apply IsS81.drewN|apply IsS81.drew|apply IsS81.set_0|apply IsS81.set_1|apply IsS81.set_2)|exact HI0.out),by repeat (first|(with_reducible first|exact HB.out|apply below_alloc|apply pw_below_drewN|apply below_drew1|refine below_set ?_ (IsS81.ge HI0.out))|exact HB.out),by repeat (first|(with_reducible first|exact HK.out|apply KeepBut.set_|apply keep_drewN|apply keep_drew|apply keep_alloc)|exact HK.out)⟩

/-! ### bits_Reader_Varint: function 34 -/
def bits_Reader_Varint.j0 : Nat → Int → Int → Int → Bool → ByteArray → Int → Int → Option (Int × ByteArray × Int × Int)
 | 0,_,_,_,_,_,_,_=>none
 | k + 1,x5,x6,x7,x30,x1000,x1001,x1002=>if x30 = true then ((bits_Reader_take.f x1000 x1001 x1002 x6 40).bind fun bt112=>(if bt112.1 = true then (some (x5,bt112.2.1,bt112.2.2.1,bt112.2.2.2)) else (some (0,bt112.2.1,bt112.2.2.1,bt112.2.2.2)))) else ((bits_Reader_take.f x1000 x1001 x1002 x6 x7).bind fun bt116=>(if bt116.1 = true then (some (x5,bt116.2.1,bt116.2.2.1,bt116.2.2.2)) else (some (0,bt116.2.1,bt116.2.2.1,bt116.2.2.2))))
def bits_Reader_Varint.f (k : Nat) (s0_0 : ByteArray) (s0_1 : Int) (s0_2 : Int) (a1 : Int) : Option (Int × ByteArray × Int × Int) := (bits_Reader_good.f s0_0 s0_1 s0_2).bind fun bt105 => (if bt105.1 = true then ((bits_Uvarint.f k bt105.2.1 bt105.2.2.1).bind fun bt109 => (if bt109.2.2 = 0 then (bits_Reader_Varint.j0 k bt109.1 bt109.2.1 bt109.2.2 (decide (bt109.1 > a1)) bt105.2.1 bt105.2.2.1 bt105.2.2.2) else (bits_Reader_Varint.j0 k bt109.1 bt109.2.1 bt109.2.2 false bt105.2.1 bt105.2.2.1 bt105.2.2.2))) else (some (0, bt105.2.1, bt105.2.2.1, bt105.2.2.2)))
theorem bits_Reader_Varint.mono_l : ∀ k, (∀ y0 y1 y2 y3 y4 y5 y6, LeO (bits_Reader_Varint.j0 k y0 y1 y2 y3 y4 y5 y6) (bits_Reader_Varint.j0 (k + 1) y0 y1 y2 y3 y4 y5 y6))
 | 0=>fun _ _ _ _ _ _ _ r h=>by simp [bits_Reader_Varint.j0] at h
 | k + 1=>by
  have ih0 := bits_Reader_Varint.mono_l k
  ·intro y0 y1 y2 y3 y4 y5 y6
   unfold bits_Reader_Varint.j0
   repeat' first
   | (with_reducible exact ih0 _ _ _ _ _ _ _)
   | (with_reducible exact bits_Uvarint.mono _ _ _)
   | (with_reducible exact LeO.refl _)
   | (with_reducible exact LeO.none _)
   | (with_reducible refine LeO.ite ?_ ?_)
   | (with_reducible refine LeO.bind ?_ (fun _=>?_))
   | exact ih0 _ _ _ _ _ _ _
   | exact bits_Uvarint.mono _ _ _
   | exact LeO.none _
   | refine LeO.ite ?_ ?_
   | refine LeO.bind ?_ (fun _=>?_)
theorem bits_Reader_Varint.mono : ∀ a0 a1 a2 a3 k, LeO (bits_Reader_Varint.f k a0 a1 a2 a3) (bits_Reader_Varint.f (k + 1) a0 a1 a2 a3) := by
 intro a0 a1 a2 a3 k
 have ih0 := bits_Reader_Varint.mono_l k
 unfold bits_Reader_Varint.f
 repeat' first
   | (with_reducible exact ih0 _ _ _ _ _ _ _)
   | (with_reducible exact bits_Uvarint.mono _ _ _)
   | (with_reducible exact LeO.refl _)
   | (with_reducible exact LeO.none _)
   | (with_reducible refine LeO.ite ?_ ?_)
   | (with_reducible refine LeO.bind ?_ (fun _=>?_))
   | exact ih0 _ _ _ _ _ _ _
   | exact bits_Uvarint.mono _ _ _
   | exact LeO.none _
   | refine LeO.ite ?_ ?_
   | refine LeO.bind ?_ (fun _=>?_)
set_option maxHeartbeats 8000000 in
set_option maxRecDepth 100000 in
theorem bits_Reader_Varint.calls (k : Nat) (g : Nat) (s0_0 : ByteArray) (s0_1 : Int) (s0_2 : Int) (a1 : Int) (r1 : Int) (r2 : ByteArray) (r3 : Int) (r4 : Int) (w0 w : World) (hI : IsS81 w0 w g s0_0 s0_1 s0_2) (hB : Below w0.heap.size w0 w) (h : bits_Reader_Varint.f k s0_0 s0_1 s0_2 a1 = some (r1, r2, r3, r4)) :
  Calls Try.prog 34 #[.pointer (some ⟨g,0,none⟩),.int .u64 a1] w fun e w'=>e = .returned (.int .u64 r1) ∧ IsS81 w0 w' g r2 r3 r4 ∧ Below w0.heap.size w0 w' ∧ KeepBut w w' g none := by
 have HI0 := Aside0.mk hI
 have HK := Aside0.mk (KeepBut.refl w g none)
 have HL := Aside0.mk hB.size
 clear hI
 have HW0 := Aside0.mk hB.size
 have HB := Aside0.mk hB
 clear hB
 have H : ((bits_Reader_good.f s0_0 s0_1 s0_2).bind fun bt105=>(if bt105.1 = true then ((bits_Uvarint.f k bt105.2.1 bt105.2.2.1).bind fun bt109=>(if bt109.2.2 = 0 then (bits_Reader_Varint.j0 k bt109.1 bt109.2.1 bt109.2.2 (decide (bt109.1 > a1)) bt105.2.1 bt105.2.2.1 bt105.2.2.2) else (bits_Reader_Varint.j0 k bt109.1 bt109.2.1 bt109.2.2 false bt105.2.1 bt105.2.2.1 bt105.2.2.2))) else (some (0,bt105.2.1,bt105.2.2.1,bt105.2.2.2)))) = some (r1,r2,r3,r4) := h
 clear h
 replace H := Option.bind_eq_some_iff.mp H
 obtain ⟨⟨t105,t106,t107,t108⟩,A30,H⟩ := H
 replace H : (if t105 = true then ((bits_Uvarint.f k t106 t107).bind fun bt109=>(if bt109.2.2 = 0 then (bits_Reader_Varint.j0 k bt109.1 bt109.2.1 bt109.2.2 (decide (bt109.1 > a1)) t106 t107 t108) else (bits_Reader_Varint.j0 k bt109.1 bt109.2.1 bt109.2.2 false t106 t107 t108))) else (some (0,t106,t107,t108))) = some (r1,r2,r3,r4) := H
 have A3 := Aside0.mk A30
 clear A30
 by_cases c4 : t105 = true
 ·subst c4
  have H1 : ((bits_Uvarint.f k t106 t107).bind fun bt109=>(if bt109.2.2 = 0 then (bits_Reader_Varint.j0 k bt109.1 bt109.2.1 bt109.2.2 (decide (bt109.1 > a1)) t106 t107 t108) else (bits_Reader_Varint.j0 k bt109.1 bt109.2.1 bt109.2.2 false t106 t107 t108))) = some (r1,r2,r3,r4) := by rw [if_pos rfl] at H;exact H
  clear H
  have H := H1
  clear H1
  replace H := Option.bind_eq_some_iff.mp H
  obtain ⟨⟨t109,t110,t111⟩,A50,H⟩ := H
  replace H : (if t111 = 0 then (bits_Reader_Varint.j0 k t109 t110 t111 (decide (t109 > a1)) t106 t107 t108) else (bits_Reader_Varint.j0 k t109 t110 t111 false t106 t107 t108)) = some (r1,r2,r3,r4) := H
  have A5 := Aside0.mk A50
  clear A50
  have HC6 := Aside0.mk H
  clear H
  go_enter Try.func34,Try.ntmps34
  go_upto_region 4 with (first|(go_at_call 50;(with_reducible refine (bits_Reader_good.calls g s0_0 s0_1 s0_2 true t106 t107 t108 w0 _ ?side1 ?side2 A3.out).mono ?_);(case side1=>repeat (first|(with_reducible first|exact HI0.out|apply IsS81.alloc|apply IsS81.drewN|apply IsS81.drew|apply IsS81.set_0|apply IsS81.set_1|apply IsS81.set_2)|exact HI0.out));(case side2=>repeat (first|(with_reducible first|exact HB.out|apply below_alloc|apply pw_below_drewN|apply below_drew1|refine below_set ?_ (IsS81.ge HI0.out))|exact HB.out));rintro e w7 ⟨rfl,hi,hb,hk⟩;have n0_ := Aside0.mk (KeepBut.trans (by repeat (first|(with_reducible first|exact HK.out|apply KeepBut.set_|apply keep_drewN|apply keep_drew|apply keep_alloc)|exact HK.out)) hk (.inl rfl));have n1_ := Aside0.mk (hb);have n2_ := Aside0.mk (hi);clear HK;clear HB;clear HI0;have HK := n0_;have HB := n1_;have HI0 := n2_;clear n0_ n1_ n2_;(try clear hb);(try clear hb2);(try clear hk);(try clear hi);obtain ⟨HGz8,hgz8⟩ := HI0.out;have hcz8_0 := cellS81_0 HGz8;have hcz8_1 := cellS81_1 HGz8;have hcz8_2 := cellS81_2 HGz8;have hfz8_0 := blk_frozen HGz8 0;have hfz8_1 := blk_frozen HGz8 1;have hfz8_2 := blk_frozen HGz8 2;clear HGz8 hgz8)|(go_at_call 47;(with_reducible refine (bits_Uvarint.calls k t106 t107 t109 t110 t111 _ A5.out).mono ?_);rintro e w' ⟨rfl,⟨nd,rfl⟩⟩;(try first|exact ⟨rfl,_,World.drewN_drewN _ _ _⟩|exact ⟨rfl,_,Eq.trans (World.drewN_drewN _ _ _) (congrArg (World.drewN _) (Nat.add_assoc _ _ _))⟩)))
  repeat (go_quiet (first|(go_at_call 50;(with_reducible refine (bits_Reader_good.calls g s0_0 s0_1 s0_2 true t106 t107 t108 w0 _ ?side1 ?side2 A3.out).mono ?_);(case side1=>repeat (first|(with_reducible first|exact HI0.out|apply IsS81.alloc|apply IsS81.drewN|apply IsS81.drew|apply IsS81.set_0|apply IsS81.set_1|apply IsS81.set_2)|exact HI0.out));(case side2=>repeat (first|(with_reducible first|exact HB.out|apply below_alloc|apply pw_below_drewN|apply below_drew1|refine below_set ?_ (IsS81.ge HI0.out))|exact HB.out));rintro e w7 ⟨rfl,hi,hb,hk⟩;have n0_ := Aside0.mk (KeepBut.trans (by repeat (first|(with_reducible first|exact HK.out|apply KeepBut.set_|apply keep_drewN|apply keep_drew|apply keep_alloc)|exact HK.out)) hk (.inl rfl));have n1_ := Aside0.mk (hb);have n2_ := Aside0.mk (hi);clear HK;clear HB;clear HI0;have HK := n0_;have HB := n1_;have HI0 := n2_;clear n0_ n1_ n2_;(try clear hb);(try clear hb2);(try clear hk);(try clear hi);obtain ⟨HGz8,hgz8⟩ := HI0.out;have hcz8_0 := cellS81_0 HGz8;have hcz8_1 := cellS81_1 HGz8;have hcz8_2 := cellS81_2 HGz8;have hfz8_0 := blk_frozen HGz8 0;have hfz8_1 := blk_frozen HGz8 1;have hfz8_2 := blk_frozen HGz8 2;clear HGz8 hgz8)|(go_at_call 47;(with_reducible refine (bits_Uvarint.calls k t106 t107 t109 t110 t111 _ A5.out).mono ?_);rintro e w' ⟨rfl,⟨nd,rfl⟩⟩;(try first|exact ⟨rfl,_,World.drewN_drewN _ _ _⟩|exact ⟨rfl,_,Eq.trans (World.drewN_drewN _ _ _) (congrArg (World.drewN _) (Nat.add_assoc _ _ _))⟩)));go_upto_region 4 with (first|(go_at_call 50;(with_reducible refine (bits_Reader_good.calls g s0_0 s0_1 s0_2 true t106 t107 t108 w0 _ ?side1 ?side2 A3.out).mono ?_);(case side1=>repeat (first|(with_reducible first|exact HI0.out|apply IsS81.alloc|apply IsS81.drewN|apply IsS81.drew|apply IsS81.set_0|apply IsS81.set_1|apply IsS81.set_2)|exact HI0.out));(case side2=>repeat (first|(with_reducible first|exact HB.out|apply below_alloc|apply pw_below_drewN|apply below_drew1|refine below_set ?_ (IsS81.ge HI0.out))|exact HB.out));rintro e w7 ⟨rfl,hi,hb,hk⟩;have n0_ := Aside0.mk (KeepBut.trans (by repeat (first|(with_reducible first|exact HK.out|apply KeepBut.set_|apply keep_drewN|apply keep_drew|apply keep_alloc)|exact HK.out)) hk (.inl rfl));have n1_ := Aside0.mk (hb);have n2_ := Aside0.mk (hi);clear HK;clear HB;clear HI0;have HK := n0_;have HB := n1_;have HI0 := n2_;clear n0_ n1_ n2_;(try clear hb);(try clear hb2);(try clear hk);(try clear hi);obtain ⟨HGz8,hgz8⟩ := HI0.out;have hcz8_0 := cellS81_0 HGz8;have hcz8_1 := cellS81_1 HGz8;have hcz8_2 := cellS81_2 HGz8;have hfz8_0 := blk_frozen HGz8 0;have hfz8_1 := blk_frozen HGz8 1;have hfz8_2 := blk_frozen HGz8 2;clear HGz8 hgz8)|(go_at_call 47;(with_reducible refine (bits_Uvarint.calls k t106 t107 t109 t110 t111 _ A5.out).mono ?_);rintro e w' ⟨rfl,⟨nd,rfl⟩⟩;(try first|exact ⟨rfl,_,World.drewN_drewN _ _ _⟩|exact ⟨rfl,_,Eq.trans (World.drewN_drewN _ _ _) (congrArg (World.drewN _) (Nat.add_assoc _ _ _))⟩))))
  (try simp only [Act.put,List.setIfInBounds_toArray,List.set_cons_zero,List.set_cons_succ])
  go_cut [30] (fun v30 wc=>∃ (kq : Nat) (x30_5 : Bool),v30 = .bool x30_5 ∧ Aside0 (bits_Reader_Varint.j0 kq t109 t110 t111 x30_5 t106 t107 t108 = some (r1,r2,r3,r4)) ∧ Aside0 (kq ≤ k) ∧ Aside0 (IsS81 w0 wc g t106 t107 t108) ∧ Aside0 (KeepBut w wc g none) ∧ Aside0 (Below w0.heap.size w0 wc))
  case first =>
   have H := HC6.out
   clear HC6
   by_cases c9 : t111 = 0
   ·rw [if_pos c9] at H
    have c9b0 : (t111 == 0) = true := beq_iff_eq.mpr c9
    have c9b1 : (t111 != 0) = false := bne_eq_false_iff_eq.mpr c9
    clear c9
    (first|rw [c9b0]|(simp only [i64_w,i32_w];rw [c9b0])|skip)
    have H' := Aside0.mk H
    clear H
    go_wp2
    repeat (go_quiet (fail);try go_wp2)
    go_meet
    case rel=>exact ⟨_,(decide (t109 > a1)),(by first|rfl|(simp;done)|(simp [*];done)),H',⟨by first|omega|exact Nat.le_refl _⟩,⟨by repeat (first|(with_reducible first|exact HI0.out|apply IsS81.alloc|apply IsS81.drewN|apply IsS81.drew|apply IsS81.set_0|apply IsS81.set_1|apply IsS81.set_2)|exact HI0.out)⟩,⟨by repeat (first|(with_reducible first|exact HK.out|apply KeepBut.set_|apply keep_drewN|apply keep_drew|apply keep_alloc)|exact HK.out)⟩,⟨by repeat (first|(with_reducible first|exact HB.out|apply below_alloc|apply pw_below_drewN|apply below_drew1|refine below_set ?_ (IsS81.ge HI0.out))|exact HB.out)⟩⟩
   ·rw [if_neg c9] at H
    have c9b0 : (t111 == 0) = false := beq_eq_false_iff_ne.mpr c9
    have c9b1 : (t111 != 0) = true := bne_iff_ne.mpr c9
    (first|rw [c9b0]|(simp only [i64_w,i32_w];rw [c9b0])|skip)
    have H' := Aside0.mk H
    clear H
    go_wp2
    repeat (go_quiet (fail);try go_wp2)
    go_meet
    case rel=>exact ⟨_,(false),(by first|rfl|(simp;done)|(simp [*];done)),H',⟨by first|omega|exact Nat.le_refl _⟩,⟨by repeat (first|(with_reducible first|exact HI0.out|apply IsS81.alloc|apply IsS81.drewN|apply IsS81.drew|apply IsS81.set_0|apply IsS81.set_1|apply IsS81.set_2)|exact HI0.out)⟩,⟨by repeat (first|(with_reducible first|exact HK.out|apply KeepBut.set_|apply keep_drewN|apply keep_drew|apply keep_alloc)|exact HK.out)⟩,⟨by repeat (first|(with_reducible first|exact HB.out|apply below_alloc|apply pw_below_drewN|apply below_drew1|refine below_set ?_ (IsS81.ge HI0.out))|exact HB.out)⟩⟩
  case rest =>
   clear HC6
   try clear p2
   try clear c3
   try clear c4
   try clear c9
   try clear c9b0
   try clear c9b1
   try clear hcz8_0
   try clear hcz8_1
   try clear hcz8_2
   try clear hfz8_0
   try clear hfz8_1
   try clear hfz8_2
   obtain ⟨kq,x30_5,rfl,HA,HJ5,HI0,HK,HB⟩ := hcut
   cases kq with
   | zero=>exact absurd HA.out (by simp [bits_Reader_Varint.j0])
   | succ kj5 =>
    have H := HA.out
    clear HA
    simp only [bits_Reader_Varint.j0] at H
    by_cases c10 : x30_5 = true
    ·subst c10
     have H1 : ((bits_Reader_take.f t106 t107 t108 t110 40).bind fun bt112=>(if bt112.1 = true then (some (t109,bt112.2.1,bt112.2.2.1,bt112.2.2.2)) else (some (0,bt112.2.1,bt112.2.2.1,bt112.2.2.2)))) = some (r1,r2,r3,r4) := by rw [if_pos rfl] at H;exact H
     clear H
     have H := H1
     clear H1
     replace H := Option.bind_eq_some_iff.mp H
     obtain ⟨⟨t112,t113,t114,t115⟩,A110,H⟩ := H
     replace H : (if t112 = true then (some (t109,t113,t114,t115)) else (some (0,t113,t114,t115))) = some (r1,r2,r3,r4) := H
     have A11 := Aside0.mk A110
     clear A110
     by_cases c12 : t112 = true
     ·subst c12
      have H1 : (some (t109,t113,t114,t115)) = some (r1,r2,r3,r4) := by rw [if_pos rfl] at H;exact H
      clear H
      have H := H1
      clear H1
      simp only [Option.some.injEq,Prod.mk.injEq] at H
      obtain ⟨rfl,rfl,rfl,rfl⟩ := H
      go_wp2_with (first|(go_at_call 51;(with_reducible refine (bits_Reader_take.calls g t106 t107 t108 t110 40 true t113 t114 t115 w0 _ ?side1 ?side2 A11.out).mono ?_);(case side1=>repeat (first|(with_reducible first|exact HI0.out|apply IsS81.alloc|apply IsS81.drewN|apply IsS81.drew|apply IsS81.set_0|apply IsS81.set_1|apply IsS81.set_2)|exact HI0.out));(case side2=>repeat (first|(with_reducible first|exact HB.out|apply below_alloc|apply pw_below_drewN|apply below_drew1|refine below_set ?_ (IsS81.ge HI0.out))|exact HB.out));rintro e w13 ⟨rfl,hi,hb,hk⟩;have n0_ := Aside0.mk (KeepBut.trans (by repeat (first|(with_reducible first|exact HK.out|apply KeepBut.set_|apply keep_drewN|apply keep_drew|apply keep_alloc)|exact HK.out)) hk (.inl rfl));have n1_ := Aside0.mk (hb);have n2_ := Aside0.mk (hi);clear HK;clear HB;clear HI0;have HK := n0_;have HB := n1_;have HI0 := n2_;clear n0_ n1_ n2_;(try clear hb);(try clear hb2);(try clear hk);(try clear hi)))
      repeat (go_quiet (first|(go_at_call 51;(with_reducible refine (bits_Reader_take.calls g t106 t107 t108 t110 40 true t113 t114 t115 w0 _ ?side1 ?side2 A11.out).mono ?_);(case side1=>repeat (first|(with_reducible first|exact HI0.out|apply IsS81.alloc|apply IsS81.drewN|apply IsS81.drew|apply IsS81.set_0|apply IsS81.set_1|apply IsS81.set_2)|exact HI0.out));(case side2=>repeat (first|(with_reducible first|exact HB.out|apply below_alloc|apply pw_below_drewN|apply below_drew1|refine below_set ?_ (IsS81.ge HI0.out))|exact HB.out));rintro e w13 ⟨rfl,hi,hb,hk⟩;have n0_ := Aside0.mk (KeepBut.trans (by repeat (first|(with_reducible first|exact HK.out|apply KeepBut.set_|apply keep_drewN|apply keep_drew|apply keep_alloc)|exact HK.out)) hk (.inl rfl));have n1_ := Aside0.mk (hb);have n2_ := Aside0.mk (hi);clear HK;clear HB;clear HI0;have HK := n0_;have HB := n1_;have HI0 := n2_;clear n0_ n1_ n2_;(try clear hb);(try clear hb2);(try clear hk);(try clear hi)));try go_wp2_with (first|(go_at_call 51;(with_reducible refine (bits_Reader_take.calls g t106 t107 t108 t110 40 true t113 t114 t115 w0 _ ?side1 ?side2 A11.out).mono ?_);(case side1=>repeat (first|(with_reducible first|exact HI0.out|apply IsS81.alloc|apply IsS81.drewN|apply IsS81.drew|apply IsS81.set_0|apply IsS81.set_1|apply IsS81.set_2)|exact HI0.out));(case side2=>repeat (first|(with_reducible first|exact HB.out|apply below_alloc|apply pw_below_drewN|apply below_drew1|refine below_set ?_ (IsS81.ge HI0.out))|exact HB.out));rintro e w13 ⟨rfl,hi,hb,hk⟩;have n0_ := Aside0.mk (KeepBut.trans (by repeat (first|(with_reducible first|exact HK.out|apply KeepBut.set_|apply keep_drewN|apply keep_drew|apply keep_alloc)|exact HK.out)) hk (.inl rfl));have n1_ := Aside0.mk (hb);have n2_ := Aside0.mk (hi);clear HK;clear HB;clear HI0;have HK := n0_;have HB := n1_;have HI0 := n2_;clear n0_ n1_ n2_;(try clear hb);(try clear hb2);(try clear hk);(try clear hi))))
      go_ret
      exact ⟨by first|rfl|(simp [errW_none,errW_some] <;> rfl)|(simp [*,errW_none,errW_some] <;> rfl),by repeat (first|(with_reducible first|exact HI0.out|apply IsS81.alloc|apply IsS81.drewN|apply IsS81.drew|apply IsS81.set_0|apply IsS81.set_1|apply IsS81.set_2)|exact HI0.out),by repeat (first|(with_reducible first|exact HB.out|apply below_alloc|apply pw_below_drewN|apply below_drew1|refine below_set ?_ (IsS81.ge HI0.out))|exact HB.out),by repeat (first|(with_reducible first|exact HK.out|apply KeepBut.set_|apply keep_drewN|apply keep_drew|apply keep_alloc)|exact HK.out)⟩
     ·replace c12 := Bool.eq_false_iff.mpr c12
      subst c12
      have H1 : (some (0,t113,t114,t115)) = some (r1,r2,r3,r4) := by rw [if_neg (show ¬ (false = true) by decide)] at H;exact H
      clear H
      have H := H1
      clear H1
      simp only [Option.some.injEq,Prod.mk.injEq] at H
      obtain ⟨rfl,rfl,rfl,rfl⟩ := H
      go_wp2_with (first|(go_at_call 51;(with_reducible refine (bits_Reader_take.calls g t106 t107 t108 t110 40 false t113 t114 t115 w0 _ ?side1 ?side2 A11.out).mono ?_);(case side1=>repeat (first|(with_reducible first|exact HI0.out|apply IsS81.alloc|apply IsS81.drewN|apply IsS81.drew|apply IsS81.set_0|apply IsS81.set_1|apply IsS81.set_2)|exact HI0.out));(case side2=>repeat (first|(with_reducible first|exact HB.out|apply below_alloc|apply pw_below_drewN|apply below_drew1|refine below_set ?_ (IsS81.ge HI0.out))|exact HB.out));rintro e w14 ⟨rfl,hi,hb,hk⟩;have n0_ := Aside0.mk (KeepBut.trans (by repeat (first|(with_reducible first|exact HK.out|apply KeepBut.set_|apply keep_drewN|apply keep_drew|apply keep_alloc)|exact HK.out)) hk (.inl rfl));have n1_ := Aside0.mk (hb);have n2_ := Aside0.mk (hi);clear HK;clear HB;clear HI0;have HK := n0_;have HB := n1_;have HI0 := n2_;clear n0_ n1_ n2_;(try clear hb);(try clear hb2);(try clear hk);(try clear hi)))
      repeat (go_quiet (first|(go_at_call 51;(with_reducible refine (bits_Reader_take.calls g t106 t107 t108 t110 40 false t113 t114 t115 w0 _ ?side1 ?side2 A11.out).mono ?_);(case side1=>repeat (first|(with_reducible first|exact HI0.out|apply IsS81.alloc|apply IsS81.drewN|apply IsS81.drew|apply IsS81.set_0|apply IsS81.set_1|apply IsS81.set_2)|exact HI0.out));(case side2=>repeat (first|(with_reducible first|exact HB.out|apply below_alloc|apply pw_below_drewN|apply below_drew1|refine below_set ?_ (IsS81.ge HI0.out))|exact HB.out));rintro e w14 ⟨rfl,hi,hb,hk⟩;have n0_ := Aside0.mk (KeepBut.trans (by repeat (first|(with_reducible first|exact HK.out|apply KeepBut.set_|apply keep_drewN|apply keep_drew|apply keep_alloc)|exact HK.out)) hk (.inl rfl));have n1_ := Aside0.mk (hb);have n2_ := Aside0.mk (hi);clear HK;clear HB;clear HI0;have HK := n0_;have HB := n1_;have HI0 := n2_;clear n0_ n1_ n2_;(try clear hb);(try clear hb2);(try clear hk);(try clear hi)));try go_wp2_with (first|(go_at_call 51;(with_reducible refine (bits_Reader_take.calls g t106 t107 t108 t110 40 false t113 t114 t115 w0 _ ?side1 ?side2 A11.out).mono ?_);(case side1=>repeat (first|(with_reducible first|exact HI0.out|apply IsS81.alloc|apply IsS81.drewN|apply IsS81.drew|apply IsS81.set_0|apply IsS81.set_1|apply IsS81.set_2)|exact HI0.out));(case side2=>repeat (first|(with_reducible first|exact HB.out|apply below_alloc|apply pw_below_drewN|apply below_drew1|refine below_set ?_ (IsS81.ge HI0.out))|exact HB.out));rintro e w14 ⟨rfl,hi,hb,hk⟩;have n0_ := Aside0.mk (KeepBut.trans (by repeat (first|(with_reducible first|exact HK.out|apply KeepBut.set_|apply keep_drewN|apply keep_drew|apply keep_alloc)|exact HK.out)) hk (.inl rfl));have n1_ := Aside0.mk (hb);have n2_ := Aside0.mk (hi);clear HK;clear HB;clear HI0;have HK := n0_;have HB := n1_;have HI0 := n2_;clear n0_ n1_ n2_;(try clear hb);(try clear hb2);(try clear hk);(try clear hi))))
      go_ret
      exact ⟨by first|rfl|(simp [errW_none,errW_some] <;> rfl)|(simp [*,errW_none,errW_some] <;> rfl),by repeat (first|(with_reducible first|exact HI0.out|apply IsS81.alloc|apply IsS81.drewN|apply IsS81.drew|apply IsS81.set_0|apply IsS81.set_1|apply IsS81.set_2)|exact HI0.out),by repeat (first|(with_reducible first|exact HB.out|apply below_alloc|apply pw_below_drewN|apply below_drew1|refine below_set ?_ (IsS81.ge HI0.out))|exact HB.out),by repeat (first|(with_reducible first|exact HK.out|apply KeepBut.set_|apply keep_drewN|apply keep_drew|apply keep_alloc)|exact HK.out)⟩
    ·replace c10 := Bool.eq_false_iff.mpr c10
     subst c10
     have H1 : ((bits_Reader_take.f t106 t107 t108 t110 t111).bind fun bt116=>(if bt116.1 = true then (some (t109,bt116.2.1,bt116.2.2.1,bt116.2.2.2)) else (some (0,bt116.2.1,bt116.2.2.1,bt116.2.2.2)))) = some (r1,r2,r3,r4) := by rw [if_neg (show ¬ (false = true) by decide)] at H;exact H
     clear H
     have H := H1
     clear H1
     replace H := Option.bind_eq_some_iff.mp H
     obtain ⟨⟨t116,t117,t118,t119⟩,A150,H⟩ := H
     replace H : (if t116 = true then (some (t109,t117,t118,t119)) else (some (0,t117,t118,t119))) = some (r1,r2,r3,r4) := H
     have A15 := Aside0.mk A150
     clear A150
     by_cases c16 : t116 = true
     ·subst c16
      have H1 : (some (t109,t117,t118,t119)) = some (r1,r2,r3,r4) := by rw [if_pos rfl] at H;exact H
      clear H
      have H := H1
      clear H1
      simp only [Option.some.injEq,Prod.mk.injEq] at H
      obtain ⟨rfl,rfl,rfl,rfl⟩ := H
      go_wp2_with (first|(go_at_call 51;(with_reducible refine (bits_Reader_take.calls g t106 t107 t108 t110 t111 true t117 t118 t119 w0 _ ?side1 ?side2 A15.out).mono ?_);(case side1=>repeat (first|(with_reducible first|exact HI0.out|apply IsS81.alloc|apply IsS81.drewN|apply IsS81.drew|apply IsS81.set_0|apply IsS81.set_1|apply IsS81.set_2)|exact HI0.out));(case side2=>repeat (first|(with_reducible first|exact HB.out|apply below_alloc|apply pw_below_drewN|apply below_drew1|refine below_set ?_ (IsS81.ge HI0.out))|exact HB.out));rintro e w17 ⟨rfl,hi,hb,hk⟩;have n0_ := Aside0.mk (KeepBut.trans (by repeat (first|(with_reducible first|exact HK.out|apply KeepBut.set_|apply keep_drewN|apply keep_drew|apply keep_alloc)|exact HK.out)) hk (.inl rfl));have n1_ := Aside0.mk (hb);have n2_ := Aside0.mk (hi);clear HK;clear HB;clear HI0;have HK := n0_;have HB := n1_;have HI0 := n2_;clear n0_ n1_ n2_;(try clear hb);(try clear hb2);(try clear hk);(try clear hi)))
      repeat (go_quiet (first|(go_at_call 51;(with_reducible refine (bits_Reader_take.calls g t106 t107 t108 t110 t111 true t117 t118 t119 w0 _ ?side1 ?side2 A15.out).mono ?_);(case side1=>repeat (first|(with_reducible first|exact HI0.out|apply IsS81.alloc|apply IsS81.drewN|apply IsS81.drew|apply IsS81.set_0|apply IsS81.set_1|apply IsS81.set_2)|exact HI0.out));(case side2=>repeat (first|(with_reducible first|exact HB.out|apply below_alloc|apply pw_below_drewN|apply below_drew1|refine below_set ?_ (IsS81.ge HI0.out))|exact HB.out));rintro e w17 ⟨rfl,hi,hb,hk⟩;have n0_ := Aside0.mk (KeepBut.trans (by repeat (first|(with_reducible first|exact HK.out|apply KeepBut.set_|apply keep_drewN|apply keep_drew|apply keep_alloc)|exact HK.out)) hk (.inl rfl));have n1_ := Aside0.mk (hb);have n2_ := Aside0.mk (hi);clear HK;clear HB;clear HI0;have HK := n0_;have HB := n1_;have HI0 := n2_;clear n0_ n1_ n2_;(try clear hb);(try clear hb2);(try clear hk);(try clear hi)));try go_wp2_with (first|(go_at_call 51;(with_reducible refine (bits_Reader_take.calls g t106 t107 t108 t110 t111 true t117 t118 t119 w0 _ ?side1 ?side2 A15.out).mono ?_);(case side1=>repeat (first|(with_reducible first|exact HI0.out|apply IsS81.alloc|apply IsS81.drewN|apply IsS81.drew|apply IsS81.set_0|apply IsS81.set_1|apply IsS81.set_2)|exact HI0.out));(case side2=>repeat (first|(with_reducible first|exact HB.out|apply below_alloc|apply pw_below_drewN|apply below_drew1|refine below_set ?_ (IsS81.ge HI0.out))|exact HB.out));rintro e w17 ⟨rfl,hi,hb,hk⟩;have n0_ := Aside0.mk (KeepBut.trans (by repeat (first|(with_reducible first|exact HK.out|apply KeepBut.set_|apply keep_drewN|apply keep_drew|apply keep_alloc)|exact HK.out)) hk (.inl rfl));have n1_ := Aside0.mk (hb);have n2_ := Aside0.mk (hi);clear HK;clear HB;clear HI0;have HK := n0_;have HB := n1_;have HI0 := n2_;clear n0_ n1_ n2_;(try clear hb);(try clear hb2);(try clear hk);(try clear hi))))
      go_ret
      exact ⟨by first|rfl|(simp [errW_none,errW_some] <;> rfl)|(simp [*,errW_none,errW_some] <;> rfl),by repeat (first|(with_reducible first|exact HI0.out|apply IsS81.alloc|apply IsS81.drewN|apply IsS81.drew|apply IsS81.set_0|apply IsS81.set_1|apply IsS81.set_2)|exact HI0.out),by repeat (first|(with_reducible first|exact HB.out|apply below_alloc|apply pw_below_drewN|apply below_drew1|refine below_set ?_ (IsS81.ge HI0.out))|exact HB.out),by repeat (first|(with_reducible first|exact HK.out|apply KeepBut.set_|apply keep_drewN|apply keep_drew|apply keep_alloc)|exact HK.out)⟩
     ·replace c16 := Bool.eq_false_iff.mpr c16
      subst c16
      have H1 : (some (0,t117,t118,t119)) = some (r1,r2,r3,r4) := by rw [if_neg (show ¬ (false = true) by decide)] at H;exact H
      clear H
      have H := H1
      clear H1
      simp only [Option.some.injEq,Prod.mk.injEq] at H
      obtain ⟨rfl,rfl,rfl,rfl⟩ := H
      go_wp2_with (first|(go_at_call 51;(with_reducible refine (bits_Reader_take.calls g t106 t107 t108 t110 t111 false t117 t118 t119 w0 _ ?side1 ?side2 A15.out).mono ?_);(case side1=>repeat (first|(with_reducible first|exact HI0.out|apply IsS81.alloc|apply IsS81.drewN|apply IsS81.drew|apply IsS81.set_0|apply IsS81.set_1|apply IsS81.set_2)|exact HI0.out));(case side2=>repeat (first|(with_reducible first|exact HB.out|apply below_alloc|apply pw_below_drewN|apply below_drew1|refine below_set ?_ (IsS81.ge HI0.out))|exact HB.out));rintro e w18 ⟨rfl,hi,hb,hk⟩;have n0_ := Aside0.mk (KeepBut.trans (by repeat (first|(with_reducible first|exact HK.out|apply KeepBut.set_|apply keep_drewN|apply keep_drew|apply keep_alloc)|exact HK.out)) hk (.inl rfl));have n1_ := Aside0.mk (hb);have n2_ := Aside0.mk (hi);clear HK;clear HB;clear HI0;have HK := n0_;have HB := n1_;have HI0 := n2_;clear n0_ n1_ n2_;(try clear hb);(try clear hb2);(try clear hk);(try clear hi)))
      repeat (go_quiet (first|(go_at_call 51;(with_reducible refine (bits_Reader_take.calls g t106 t107 t108 t110 t111 false t117 t118 t119 w0 _ ?side1 ?side2 A15.out).mono ?_);(case side1=>repeat (first|(with_reducible first|exact HI0.out|apply IsS81.alloc|apply IsS81.drewN|apply IsS81.drew|apply IsS81.set_0|apply IsS81.set_1|apply IsS81.set_2)|exact HI0.out));(case side2=>repeat (first|(with_reducible first|exact HB.out|apply below_alloc|apply pw_below_drewN|apply below_drew1|refine below_set ?_ (IsS81.ge HI0.out))|exact HB.out));rintro e w18 ⟨rfl,hi,hb,hk⟩;have n0_ := Aside0.mk (KeepBut.trans (by repeat (first|(with_reducible first|exact HK.out|apply KeepBut.set_|apply keep_drewN|apply keep_drew|apply keep_alloc)|exact HK.out)) hk (.inl rfl));have n1_ := Aside0.mk (hb);have n2_ := Aside0.mk (hi);clear HK;clear HB;clear HI0;have HK := n0_;have HB := n1_;have HI0 := n2_;clear n0_ n1_ n2_;(try clear hb);(try clear hb2);(try clear hk);(try clear hi)));try go_wp2_with (first|(go_at_call 51;(with_reducible refine (bits_Reader_take.calls g t106 t107 t108 t110 t111 false t117 t118 t119 w0 _ ?side1 ?side2 A15.out).mono ?_);(case side1=>repeat (first|(with_reducible first|exact HI0.out|apply IsS81.alloc|apply IsS81.drewN|apply IsS81.drew|apply IsS81.set_0|apply IsS81.set_1|apply IsS81.set_2)|exact HI0.out));(case side2=>repeat (first|(with_reducible first|exact HB.out|apply below_alloc|apply pw_below_drewN|apply below_drew1|refine below_set ?_ (IsS81.ge HI0.out))|exact HB.out));rintro e w18 ⟨rfl,hi,hb,hk⟩;have n0_ := Aside0.mk (KeepBut.trans (by repeat (first|(with_reducible first|exact HK.out|apply KeepBut.set_|apply keep_drewN|apply keep_drew|apply keep_alloc)|exact HK.out)) hk (.inl rfl));have n1_ := Aside0.mk (hb);have n2_ := Aside0.mk (hi);clear HK;clear HB;clear HI0;have HK := n0_;have HB := n1_;have HI0 := n2_;clear n0_ n1_ n2_;(try clear hb);(try clear hb2);(try clear hk);(try clear hi))))
      go_ret
      exact ⟨by first|rfl|(simp [errW_none,errW_some] <;> rfl)|(simp [*,errW_none,errW_some] <;> rfl),by repeat (first|(with_reducible first|exact HI0.out|apply IsS81.alloc|apply IsS81.drewN|apply IsS81.drew|apply IsS81.set_0|apply IsS81.set_1|apply IsS81.set_2)|exact HI0.out),by repeat (first|(with_reducible first|exact HB.out|apply below_alloc|apply pw_below_drewN|apply below_drew1|refine below_set ?_ (IsS81.ge HI0.out))|exact HB.out),by repeat (first|(with_reducible first|exact HK.out|apply KeepBut.set_|apply keep_drewN|apply keep_drew|apply keep_alloc)|exact HK.out)⟩
 ·replace c4 := Bool.eq_false_iff.mpr c4
  subst c4
  have H1 : (some (0,t106,t107,t108)) = some (r1,r2,r3,r4) := by rw [if_neg (show ¬ (false = true) by decide)] at H;exact H
  clear H
  have H := H1
  clear H1
  simp only [Option.some.injEq,Prod.mk.injEq] at H
  obtain ⟨rfl,rfl,rfl,rfl⟩ := H
  go_enter Try.func34,Try.ntmps34
  go_wp2_with (first|(go_at_call 50;(with_reducible refine (bits_Reader_good.calls g s0_0 s0_1 s0_2 false t106 t107 t108 w0 _ ?side1 ?side2 A3.out).mono ?_);(case side1=>repeat (first|(with_reducible first|exact HI0.out|apply IsS81.alloc|apply IsS81.drewN|apply IsS81.drew|apply IsS81.set_0|apply IsS81.set_1|apply IsS81.set_2)|exact HI0.out));(case side2=>repeat (first|(with_reducible first|exact HB.out|apply below_alloc|apply pw_below_drewN|apply below_drew1|refine below_set ?_ (IsS81.ge HI0.out))|exact HB.out));rintro e w19 ⟨rfl,hi,hb,hk⟩;have n0_ := Aside0.mk (KeepBut.trans (by repeat (first|(with_reducible first|exact HK.out|apply KeepBut.set_|apply keep_drewN|apply keep_drew|apply keep_alloc)|exact HK.out)) hk (.inl rfl));have n1_ := Aside0.mk (hb);have n2_ := Aside0.mk (hi);clear HK;clear HB;clear HI0;have HK := n0_;have HB := n1_;have HI0 := n2_;clear n0_ n1_ n2_;(try clear hb);(try clear hb2);(try clear hk);(try clear hi)))
  repeat (go_quiet (first|(go_at_call 50;(with_reducible refine (bits_Reader_good.calls g s0_0 s0_1 s0_2 false t106 t107 t108 w0 _ ?side1 ?side2 A3.out).mono ?_);(case side1=>repeat (first|(with_reducible first|exact HI0.out|apply IsS81.alloc|apply IsS81.drewN|apply IsS81.drew|apply IsS81.set_0|apply IsS81.set_1|apply IsS81.set_2)|exact HI0.out));(case side2=>repeat (first|(with_reducible first|exact HB.out|apply below_alloc|apply pw_below_drewN|apply below_drew1|refine below_set ?_ (IsS81.ge HI0.out))|exact HB.out));rintro e w19 ⟨rfl,hi,hb,hk⟩;have n0_ := Aside0.mk (KeepBut.trans (by repeat (first|(with_reducible first|exact HK.out|apply KeepBut.set_|apply keep_drewN|apply keep_drew|apply keep_alloc)|exact HK.out)) hk (.inl rfl));have n1_ := Aside0.mk (hb);have n2_ := Aside0.mk (hi);clear HK;clear HB;clear HI0;have HK := n0_;have HB := n1_;have HI0 := n2_;clear n0_ n1_ n2_;(try clear hb);(try clear hb2);(try clear hk);(try clear hi)));try go_wp2_with (first|(go_at_call 50;(with_reducible refine (bits_Reader_good.calls g s0_0 s0_1 s0_2 false t106 t107 t108 w0 _ ?side1 ?side2 A3.out).mono ?_);(case side1=>repeat (first|(with_reducible first|exact HI0.out|apply IsS81.alloc|apply IsS81.drewN|apply IsS81.drew|apply IsS81.set_0|apply IsS81.set_1|apply IsS81.set_2)|exact HI0.out));(case side2=>repeat (first|(with_reducible first|exact HB.out|apply below_alloc|apply pw_below_drewN|apply below_drew1|refine below_set ?_ (IsS81.ge HI0.out))|exact HB.out));rintro e w19 ⟨rfl,hi,hb,hk⟩;have n0_ := Aside0.mk (KeepBut.trans (by repeat (first|(with_reducible first|exact HK.out|apply KeepBut.set_|apply keep_drewN|apply keep_drew|apply keep_alloc)|exact HK.out)) hk (.inl rfl));have n1_ := Aside0.mk (hb);have n2_ := Aside0.mk (hi);clear HK;clear HB;clear HI0;have HK := n0_;have HB := n1_;have HI0 := n2_;clear n0_ n1_ n2_;(try clear hb);(try clear hb2);(try clear hk);(try clear hi))))
  go_ret
  exact ⟨by first|rfl|(simp [errW_none,errW_some] <;> rfl)|(simp [*,errW_none,errW_some] <;> rfl),by repeat (first|(with_reducible first|exact HI0.out|apply IsS81.alloc|apply IsS81.drewN|apply IsS81.drew|apply IsS81.set_0|apply IsS81.set_1|apply IsS81.set_2)|exact HI0.out),by repeat (first|(with_reducible first|exact HB.out|apply below_alloc|apply pw_below_drewN|apply below_drew1|refine below_set ?_ (IsS81.ge HI0.out))|exact HB.out),by repeat (first|(with_reducible first|exact HK.out|apply KeepBut.set_|apply keep_drewN|apply keep_drew|apply keep_alloc)|exact HK.out)⟩

/-! ### bits_Reader_Left: function 35 -/
def bits_Reader_Left.f (s0_0 : ByteArray) (s0_1 : Int) (s0_2 : Int) : Option (Int × ByteArray × Int × Int) := some (wrap64 ((s0_0.size : Int) - s0_1), s0_0, s0_1, s0_2)
set_option maxHeartbeats 8000000 in
set_option maxRecDepth 100000 in
theorem bits_Reader_Left.calls (g : Nat) (s0_0 : ByteArray) (s0_1 : Int) (s0_2 : Int) (r1 : Int) (r2 : ByteArray) (r3 : Int) (r4 : Int) (w0 w : World) (hI : IsS81 w0 w g s0_0 s0_1 s0_2) (hB : Below w0.heap.size w0 w) (h : bits_Reader_Left.f s0_0 s0_1 s0_2 = some (r1, r2, r3, r4)) :
  Calls Try.prog 35 #[.pointer (some ⟨g,0,none⟩)] w fun e w'=>e = .returned (.int .i64 r1) ∧ IsS81 w0 w' g r2 r3 r4 ∧ Below w0.heap.size w0 w' ∧ KeepBut w w' g none := by
 have hnil57neq : ∀ (a_ : Addr) (W_ : World),(binOp .neq 57 (.pointer (some a_)) (.pointer none)).run Try.prog W_ = .ok (.bool true) W_ := fun a_ W_=>by first|rfl|(simp [binOp,Op.equal,Op.maxDepth,Op.equalIn,run_underlying Try.underlying57];done)
 have hnil57eql : ∀ (a_ : Addr) (W_ : World),(binOp .eql 57 (.pointer (some a_)) (.pointer none)).run Try.prog W_ = .ok (.bool false) W_ := fun a_ W_=>by first|rfl|(simp [binOp,Op.equal,Op.maxDepth,Op.equalIn,run_underlying Try.underlying57];done)
 have HI0 := Aside0.mk hI
 have HK := Aside0.mk (KeepBut.refl w g none)
 have HL := Aside0.mk hB.size
 clear hI
 have HW0 := Aside0.mk hB.size
 have HB := Aside0.mk hB
 clear hB
 have H : (some (wrap64 ((s0_0.size : Int) - s0_1),s0_0,s0_1,s0_2)) = some (r1,r2,r3,r4) := h
 clear h
 simp only [Option.some.injEq,Prod.mk.injEq] at H
 obtain ⟨rfl,rfl,rfl,rfl⟩ := H
 obtain ⟨HGz2,hgz2⟩ := HI0.out
 have hcz2_0 := cellS81_0 HGz2
 have hcz2_1 := cellS81_1 HGz2
 have hcz2_2 := cellS81_2 HGz2
 have hfz2_0 := blk_frozen HGz2 0
 have hfz2_1 := blk_frozen HGz2 1
 have hfz2_2 := blk_frozen HGz2 2
 clear HGz2 hgz2
 go_enter Try.func35,Try.ntmps35
 go_wp2
 repeat (go_quiet (fail);try go_wp2)
 go_ret
 exact ⟨by first|rfl|(simp [errW_none,errW_some] <;> rfl)|(simp [*,errW_none,errW_some] <;> rfl),by repeat (first|(with_reducible first|exact HI0.out|apply IsS81.alloc|apply IsS81.drewN|apply IsS81.drew|apply IsS81.set_0|apply IsS81.set_1|apply IsS81.set_2)|exact HI0.out),by repeat (first|(with_reducible first|exact HB.out|apply below_alloc|apply pw_below_drewN|apply below_drew1|refine below_set ?_ (IsS81.ge HI0.out))|exact HB.out),by repeat (first|(with_reducible first|exact HK.out|apply KeepBut.set_|apply keep_drewN|apply keep_drew|apply keep_alloc)|exact HK.out)⟩

/-! ### bits_Reader_Raw: function 54 -/
def bits_Reader_Raw.f (s0_0 : ByteArray) (s0_1 : Int) (s0_2 : Int) (a1 : Int) : Option (ByteArray × ByteArray × Int × Int) := (bits_Reader_good.f s0_0 s0_1 s0_2).bind fun bt120 => (if bt120.1 = true then (if a1 < 0 then (some ((⟨#[]⟩ : ByteArray), bt120.2.1, bt120.2.2.1, 1)) else ((bits_Reader_Left.f bt120.2.1 bt120.2.2.1 bt120.2.2.2).bind fun bt124 => (if bt124.1 < a1 then (some ((⟨#[]⟩ : ByteArray), bt124.2.1, bt124.2.2.1, 8)) else (if 0 ≤ (wrap64 ((wrap64 (bt124.2.2.1 + a1)) - a1)) then (if (wrap64 ((wrap64 (bt124.2.2.1 + a1)) - a1)) ≤ (wrap64 (bt124.2.2.1 + a1)) then (if (wrap64 (bt124.2.2.1 + a1)) ≤ (bt124.2.1.size : Int) then (some (bt124.2.1.extract ((wrap64 ((wrap64 (bt124.2.2.1 + a1)) - a1)) : Int).toNat ((wrap64 (bt124.2.2.1 + a1)) : Int).toNat, bt124.2.1, wrap64 (bt124.2.2.1 + a1), bt124.2.2.2)) else (none)) else (none)) else (none))))) else (some ((⟨#[]⟩ : ByteArray), bt120.2.1, bt120.2.2.1, bt120.2.2.2)))
set_option maxHeartbeats 8000000 in
set_option maxRecDepth 100000 in
theorem bits_Reader_Raw.calls (g : Nat) (s0_0 : ByteArray) (s0_1 : Int) (s0_2 : Int) (a1 : Int) (r1 : ByteArray) (r2 : ByteArray) (r3 : Int) (r4 : Int) (w0 w : World) (hI : IsS81 w0 w g s0_0 s0_1 s0_2) (hB : Below w0.heap.size w0 w) (h : bits_Reader_Raw.f s0_0 s0_1 s0_2 a1 = some (r1, r2, r3, r4)) :
  Calls Try.prog 54 #[.pointer (some ⟨g,0,none⟩),.int .i64 a1] w fun e w'=>e = .returned (.string r1) ∧ IsS81 w0 w' g r2 r3 r4 ∧ Below w0.heap.size w0 w' ∧ KeepBut w w' g none := by
 have HI0 := Aside0.mk hI
 have HK := Aside0.mk (KeepBut.refl w g none)
 have HL := Aside0.mk hB.size
 clear hI
 have HW0 := Aside0.mk hB.size
 have HB := Aside0.mk hB
 clear hB
 have H : ((bits_Reader_good.f s0_0 s0_1 s0_2).bind fun bt120=>(if bt120.1 = true then (if a1 < 0 then (some ((⟨#[]⟩ : ByteArray),bt120.2.1,bt120.2.2.1,1)) else ((bits_Reader_Left.f bt120.2.1 bt120.2.2.1 bt120.2.2.2).bind fun bt124=>(if bt124.1 < a1 then (some ((⟨#[]⟩ : ByteArray),bt124.2.1,bt124.2.2.1,8)) else (if 0 ≤ (wrap64 ((wrap64 (bt124.2.2.1 + a1)) - a1)) then (if (wrap64 ((wrap64 (bt124.2.2.1 + a1)) - a1)) ≤ (wrap64 (bt124.2.2.1 + a1)) then (if (wrap64 (bt124.2.2.1 + a1)) ≤ (bt124.2.1.size : Int) then (some (bt124.2.1.extract ((wrap64 ((wrap64 (bt124.2.2.1 + a1)) - a1)) : Int).toNat ((wrap64 (bt124.2.2.1 + a1)) : Int).toNat,bt124.2.1,wrap64 (bt124.2.2.1 + a1),bt124.2.2.2)) else (none)) else (none)) else (none))))) else (some ((⟨#[]⟩ : ByteArray),bt120.2.1,bt120.2.2.1,bt120.2.2.2)))) = some (r1,r2,r3,r4) := h
 clear h
 replace H := Option.bind_eq_some_iff.mp H
 obtain ⟨⟨t120,t121,t122,t123⟩,A30,H⟩ := H
 replace H : (if t120 = true then (if a1 < 0 then (some ((⟨#[]⟩ : ByteArray),t121,t122,1)) else ((bits_Reader_Left.f t121 t122 t123).bind fun bt124=>(if bt124.1 < a1 then (some ((⟨#[]⟩ : ByteArray),bt124.2.1,bt124.2.2.1,8)) else (if 0 ≤ (wrap64 ((wrap64 (bt124.2.2.1 + a1)) - a1)) then (if (wrap64 ((wrap64 (bt124.2.2.1 + a1)) - a1)) ≤ (wrap64 (bt124.2.2.1 + a1)) then (if (wrap64 (bt124.2.2.1 + a1)) ≤ (bt124.2.1.size : Int) then (some (bt124.2.1.extract ((wrap64 ((wrap64 (bt124.2.2.1 + a1)) - a1)) : Int).toNat ((wrap64 (bt124.2.2.1 + a1)) : Int).toNat,bt124.2.1,wrap64 (bt124.2.2.1 + a1),bt124.2.2.2)) else (none)) else (none)) else (none))))) else (some ((⟨#[]⟩ : ByteArray),t121,t122,t123))) = some (r1,r2,r3,r4) := H
 have A3 := Aside0.mk A30
 clear A30
 by_cases c4 : t120 = true
 ·subst c4
  have H1 : (if a1 < 0 then (some ((⟨#[]⟩ : ByteArray),t121,t122,1)) else ((bits_Reader_Left.f t121 t122 t123).bind fun bt124=>(if bt124.1 < a1 then (some ((⟨#[]⟩ : ByteArray),bt124.2.1,bt124.2.2.1,8)) else (if 0 ≤ (wrap64 ((wrap64 (bt124.2.2.1 + a1)) - a1)) then (if (wrap64 ((wrap64 (bt124.2.2.1 + a1)) - a1)) ≤ (wrap64 (bt124.2.2.1 + a1)) then (if (wrap64 (bt124.2.2.1 + a1)) ≤ (bt124.2.1.size : Int) then (some (bt124.2.1.extract ((wrap64 ((wrap64 (bt124.2.2.1 + a1)) - a1)) : Int).toNat ((wrap64 (bt124.2.2.1 + a1)) : Int).toNat,bt124.2.1,wrap64 (bt124.2.2.1 + a1),bt124.2.2.2)) else (none)) else (none)) else (none))))) = some (r1,r2,r3,r4) := by rw [if_pos rfl] at H;exact H
  clear H
  have H := H1
  clear H1
  by_cases c5 : a1 < 0
  ·rw [if_pos c5] at H
   have c5b0 : decide (a1 < 0) = true := decide_eq_true c5
   clear c5
   simp only [Option.some.injEq,Prod.mk.injEq] at H
   obtain ⟨rfl,rfl,rfl,rfl⟩ := H
   go_enter Try.func54,Try.ntmps54
   go_wp2_with (first|(go_at_call 50;(with_reducible refine (bits_Reader_good.calls g s0_0 s0_1 s0_2 true t121 t122 t123 w0 _ ?side1 ?side2 A3.out).mono ?_);(case side1=>repeat (first|(with_reducible first|exact HI0.out|apply IsS81.alloc|apply IsS81.drewN|apply IsS81.drew|apply IsS81.set_0|apply IsS81.set_1|apply IsS81.set_2)|exact HI0.out));(case side2=>repeat (first|(with_reducible first|exact HB.out|apply below_alloc|apply pw_below_drewN|apply below_drew1|refine below_set ?_ (IsS81.ge HI0.out))|exact HB.out));rintro e w6 ⟨rfl,hi,hb,hk⟩;have n0_ := Aside0.mk (KeepBut.trans (by repeat (first|(with_reducible first|exact HK.out|apply KeepBut.set_|apply keep_drewN|apply keep_drew|apply keep_alloc)|exact HK.out)) hk (.inl rfl));have n1_ := Aside0.mk (hb);have n2_ := Aside0.mk (hi);clear HK;clear HB;clear HI0;have HK := n0_;have HB := n1_;have HI0 := n2_;clear n0_ n1_ n2_;(try clear hb);(try clear hb2);(try clear hk);(try clear hi);obtain ⟨HGz7,hgz7⟩ := HI0.out;have hcz7_0 := cellS81_0 HGz7;have hcz7_1 := cellS81_1 HGz7;have hcz7_2 := cellS81_2 HGz7;have hfz7_0 := blk_frozen HGz7 0;have hfz7_1 := blk_frozen HGz7 1;have hfz7_2 := blk_frozen HGz7 2;clear HGz7 hgz7))
   repeat (go_quiet (first|(go_at_call 50;(with_reducible refine (bits_Reader_good.calls g s0_0 s0_1 s0_2 true t121 t122 t123 w0 _ ?side1 ?side2 A3.out).mono ?_);(case side1=>repeat (first|(with_reducible first|exact HI0.out|apply IsS81.alloc|apply IsS81.drewN|apply IsS81.drew|apply IsS81.set_0|apply IsS81.set_1|apply IsS81.set_2)|exact HI0.out));(case side2=>repeat (first|(with_reducible first|exact HB.out|apply below_alloc|apply pw_below_drewN|apply below_drew1|refine below_set ?_ (IsS81.ge HI0.out))|exact HB.out));rintro e w6 ⟨rfl,hi,hb,hk⟩;have n0_ := Aside0.mk (KeepBut.trans (by repeat (first|(with_reducible first|exact HK.out|apply KeepBut.set_|apply keep_drewN|apply keep_drew|apply keep_alloc)|exact HK.out)) hk (.inl rfl));have n1_ := Aside0.mk (hb);have n2_ := Aside0.mk (hi);clear HK;clear HB;clear HI0;have HK := n0_;have HB := n1_;have HI0 := n2_;clear n0_ n1_ n2_;(try clear hb);(try clear hb2);(try clear hk);(try clear hi);obtain ⟨HGz7,hgz7⟩ := HI0.out;have hcz7_0 := cellS81_0 HGz7;have hcz7_1 := cellS81_1 HGz7;have hcz7_2 := cellS81_2 HGz7;have hfz7_0 := blk_frozen HGz7 0;have hfz7_1 := blk_frozen HGz7 1;have hfz7_2 := blk_frozen HGz7 2;clear HGz7 hgz7));try go_wp2_with (first|(go_at_call 50;(with_reducible refine (bits_Reader_good.calls g s0_0 s0_1 s0_2 true t121 t122 t123 w0 _ ?side1 ?side2 A3.out).mono ?_);(case side1=>repeat (first|(with_reducible first|exact HI0.out|apply IsS81.alloc|apply IsS81.drewN|apply IsS81.drew|apply IsS81.set_0|apply IsS81.set_1|apply IsS81.set_2)|exact HI0.out));(case side2=>repeat (first|(with_reducible first|exact HB.out|apply below_alloc|apply pw_below_drewN|apply below_drew1|refine below_set ?_ (IsS81.ge HI0.out))|exact HB.out));rintro e w6 ⟨rfl,hi,hb,hk⟩;have n0_ := Aside0.mk (KeepBut.trans (by repeat (first|(with_reducible first|exact HK.out|apply KeepBut.set_|apply keep_drewN|apply keep_drew|apply keep_alloc)|exact HK.out)) hk (.inl rfl));have n1_ := Aside0.mk (hb);have n2_ := Aside0.mk (hi);clear HK;clear HB;clear HI0;have HK := n0_;have HB := n1_;have HI0 := n2_;clear n0_ n1_ n2_;(try clear hb);(try clear hb2);(try clear hk);(try clear hi);obtain ⟨HGz7,hgz7⟩ := HI0.out;have hcz7_0 := cellS81_0 HGz7;have hcz7_1 := cellS81_1 HGz7;have hcz7_2 := cellS81_2 HGz7;have hfz7_0 := blk_frozen HGz7 0;have hfz7_1 := blk_frozen HGz7 1;have hfz7_2 := blk_frozen HGz7 2;clear HGz7 hgz7)))
   go_ret
   exact ⟨by first|rfl|(simp [errW_none,errW_some] <;> rfl)|(simp [*,errW_none,errW_some] <;> rfl),by repeat (first|(with_reducible first|exact HI0.out|apply IsS81.alloc|apply IsS81.drewN|apply IsS81.drew|apply IsS81.set_0|apply IsS81.set_1|apply IsS81.set_2)|exact HI0.out),by repeat (first|(with_reducible first|exact HB.out|apply below_alloc|apply pw_below_drewN|apply below_drew1|refine below_set ?_ (IsS81.ge HI0.out))|exact HB.out),by repeat (first|(with_reducible first|exact HK.out|apply KeepBut.set_|apply keep_drewN|apply keep_drew|apply keep_alloc)|exact HK.out)⟩
  ·rw [if_neg c5] at H
   have c5b0 : decide (a1 < 0) = false := decide_eq_false c5
   clear c5
   replace H := Option.bind_eq_some_iff.mp H
   obtain ⟨⟨t124,t125,t126,t127⟩,A80,H⟩ := H
   replace H : (if t124 < a1 then (some ((⟨#[]⟩ : ByteArray),t125,t126,8)) else (if 0 ≤ (wrap64 ((wrap64 (t126 + a1)) - a1)) then (if (wrap64 ((wrap64 (t126 + a1)) - a1)) ≤ (wrap64 (t126 + a1)) then (if (wrap64 (t126 + a1)) ≤ (t125.size : Int) then (some (t125.extract ((wrap64 ((wrap64 (t126 + a1)) - a1)) : Int).toNat ((wrap64 (t126 + a1)) : Int).toNat,t125,wrap64 (t126 + a1),t127)) else (none)) else (none)) else (none))) = some (r1,r2,r3,r4) := H
   have A8 := Aside0.mk A80
   clear A80
   by_cases c9 : t124 < a1
   ·rw [if_pos c9] at H
    have c9b0 : decide (t124 < a1) = true := decide_eq_true c9
    clear c9
    simp only [Option.some.injEq,Prod.mk.injEq] at H
    obtain ⟨rfl,rfl,rfl,rfl⟩ := H
    go_enter Try.func54,Try.ntmps54
    go_wp2_with (first|(go_at_call 50;(with_reducible refine (bits_Reader_good.calls g s0_0 s0_1 s0_2 true t121 t122 t123 w0 _ ?side1 ?side2 A3.out).mono ?_);(case side1=>repeat (first|(with_reducible first|exact HI0.out|apply IsS81.alloc|apply IsS81.drewN|apply IsS81.drew|apply IsS81.set_0|apply IsS81.set_1|apply IsS81.set_2)|exact HI0.out));(case side2=>repeat (first|(with_reducible first|exact HB.out|apply below_alloc|apply pw_below_drewN|apply below_drew1|refine below_set ?_ (IsS81.ge HI0.out))|exact HB.out));rintro e w10 ⟨rfl,hi,hb,hk⟩;have n0_ := Aside0.mk (KeepBut.trans (by repeat (first|(with_reducible first|exact HK.out|apply KeepBut.set_|apply keep_drewN|apply keep_drew|apply keep_alloc)|exact HK.out)) hk (.inl rfl));have n1_ := Aside0.mk (hb);have n2_ := Aside0.mk (hi);clear HK;clear HB;clear HI0;have HK := n0_;have HB := n1_;have HI0 := n2_;clear n0_ n1_ n2_;(try clear hb);(try clear hb2);(try clear hk);(try clear hi))|(go_at_call 35;(with_reducible refine (bits_Reader_Left.calls g t121 t122 t123 t124 t125 t126 t127 w0 _ ?side1 ?side2 A8.out).mono ?_);(case side1=>repeat (first|(with_reducible first|exact HI0.out|apply IsS81.alloc|apply IsS81.drewN|apply IsS81.drew|apply IsS81.set_0|apply IsS81.set_1|apply IsS81.set_2)|exact HI0.out));(case side2=>repeat (first|(with_reducible first|exact HB.out|apply below_alloc|apply pw_below_drewN|apply below_drew1|refine below_set ?_ (IsS81.ge HI0.out))|exact HB.out));rintro e w11 ⟨rfl,hi,hb,hk⟩;have n0_ := Aside0.mk (KeepBut.trans (by repeat (first|(with_reducible first|exact HK.out|apply KeepBut.set_|apply keep_drewN|apply keep_drew|apply keep_alloc)|exact HK.out)) hk (.inl rfl));have n1_ := Aside0.mk (hb);have n2_ := Aside0.mk (hi);clear HK;clear HB;clear HI0;have HK := n0_;have HB := n1_;have HI0 := n2_;clear n0_ n1_ n2_;(try clear hb);(try clear hb2);(try clear hk);(try clear hi);obtain ⟨HGz12,hgz12⟩ := HI0.out;have hcz12_0 := cellS81_0 HGz12;have hcz12_1 := cellS81_1 HGz12;have hcz12_2 := cellS81_2 HGz12;have hfz12_0 := blk_frozen HGz12 0;have hfz12_1 := blk_frozen HGz12 1;have hfz12_2 := blk_frozen HGz12 2;clear HGz12 hgz12))
    repeat (go_quiet (first|(go_at_call 50;(with_reducible refine (bits_Reader_good.calls g s0_0 s0_1 s0_2 true t121 t122 t123 w0 _ ?side1 ?side2 A3.out).mono ?_);(case side1=>repeat (first|(with_reducible first|exact HI0.out|apply IsS81.alloc|apply IsS81.drewN|apply IsS81.drew|apply IsS81.set_0|apply IsS81.set_1|apply IsS81.set_2)|exact HI0.out));(case side2=>repeat (first|(with_reducible first|exact HB.out|apply below_alloc|apply pw_below_drewN|apply below_drew1|refine below_set ?_ (IsS81.ge HI0.out))|exact HB.out));rintro e w10 ⟨rfl,hi,hb,hk⟩;have n0_ := Aside0.mk (KeepBut.trans (by repeat (first|(with_reducible first|exact HK.out|apply KeepBut.set_|apply keep_drewN|apply keep_drew|apply keep_alloc)|exact HK.out)) hk (.inl rfl));have n1_ := Aside0.mk (hb);have n2_ := Aside0.mk (hi);clear HK;clear HB;clear HI0;have HK := n0_;have HB := n1_;have HI0 := n2_;clear n0_ n1_ n2_;(try clear hb);(try clear hb2);(try clear hk);(try clear hi))|(go_at_call 35;(with_reducible refine (bits_Reader_Left.calls g t121 t122 t123 t124 t125 t126 t127 w0 _ ?side1 ?side2 A8.out).mono ?_);(case side1=>repeat (first|(with_reducible first|exact HI0.out|apply IsS81.alloc|apply IsS81.drewN|apply IsS81.drew|apply IsS81.set_0|apply IsS81.set_1|apply IsS81.set_2)|exact HI0.out));(case side2=>repeat (first|(with_reducible first|exact HB.out|apply below_alloc|apply pw_below_drewN|apply below_drew1|refine below_set ?_ (IsS81.ge HI0.out))|exact HB.out));rintro e w11 ⟨rfl,hi,hb,hk⟩;have n0_ := Aside0.mk (KeepBut.trans (by repeat (first|(with_reducible first|exact HK.out|apply KeepBut.set_|apply keep_drewN|apply keep_drew|apply keep_alloc)|exact HK.out)) hk (.inl rfl));have n1_ := Aside0.mk (hb);have n2_ := Aside0.mk (hi);clear HK;clear HB;clear HI0;have HK := n0_;have HB := n1_;have HI0 := n2_;clear n0_ n1_ n2_;(try clear hb);(try clear hb2);(try clear hk);(try clear hi);obtain ⟨HGz12,hgz12⟩ := HI0.out;have hcz12_0 := cellS81_0 HGz12;have hcz12_1 := cellS81_1 HGz12;have hcz12_2 := cellS81_2 HGz12;have hfz12_0 := blk_frozen HGz12 0;have hfz12_1 := blk_frozen HGz12 1;have hfz12_2 := blk_frozen HGz12 2;clear HGz12 hgz12));try go_wp2_with (first|(go_at_call 50;(with_reducible refine (bits_Reader_good.calls g s0_0 s0_1 s0_2 true t121 t122 t123 w0 _ ?side1 ?side2 A3.out).mono ?_);(case side1=>repeat (first|(with_reducible first|exact HI0.out|apply IsS81.alloc|apply IsS81.drewN|apply IsS81.drew|apply IsS81.set_0|apply IsS81.set_1|apply IsS81.set_2)|exact HI0.out));(case side2=>repeat (first|(with_reducible first|exact HB.out|apply below_alloc|apply pw_below_drewN|apply below_drew1|refine below_set ?_ (IsS81.ge HI0.out))|exact HB.out));rintro e w10 ⟨rfl,hi,hb,hk⟩;have n0_ := Aside0.mk (KeepBut.trans (by repeat (first|(with_reducible first|exact HK.out|apply KeepBut.set_|apply keep_drewN|apply keep_drew|apply keep_alloc)|exact HK.out)) hk (.inl rfl));have n1_ := Aside0.mk (hb);have n2_ := Aside0.mk (hi);clear HK;clear HB;clear HI0;have HK := n0_;have HB := n1_;have HI0 := n2_;clear n0_ n1_ n2_;(try clear hb);(try clear hb2);(try clear hk);(try clear hi))|(go_at_call 35;(with_reducible refine (bits_Reader_Left.calls g t121 t122 t123 t124 t125 t126 t127 w0 _ ?side1 ?side2 A8.out).mono ?_);(case side1=>repeat (first|(with_reducible first|exact HI0.out|apply IsS81.alloc|apply IsS81.drewN|apply IsS81.drew|apply IsS81.set_0|apply IsS81.set_1|apply IsS81.set_2)|exact HI0.out));(case side2=>repeat (first|(with_reducible first|exact HB.out|apply below_alloc|apply pw_below_drewN|apply below_drew1|refine below_set ?_ (IsS81.ge HI0.out))|exact HB.out));rintro e w11 ⟨rfl,hi,hb,hk⟩;have n0_ := Aside0.mk (KeepBut.trans (by repeat (first|(with_reducible first|exact HK.out|apply KeepBut.set_|apply keep_drewN|apply keep_drew|apply keep_alloc)|exact HK.out)) hk (.inl rfl));have n1_ := Aside0.mk (hb);have n2_ := Aside0.mk (hi);clear HK;clear HB;clear HI0;have HK := n0_;have HB := n1_;have HI0 := n2_;clear n0_ n1_ n2_;(try clear hb);(try clear hb2);(try clear hk);(try clear hi);obtain ⟨HGz12,hgz12⟩ := HI0.out;have hcz12_0 := cellS81_0 HGz12;have hcz12_1 := cellS81_1 HGz12;have hcz12_2 := cellS81_2 HGz12;have hfz12_0 := blk_frozen HGz12 0;have hfz12_1 := blk_frozen HGz12 1;have hfz12_2 := blk_frozen HGz12 2;clear HGz12 hgz12)))
    go_ret
    exact ⟨by first|rfl|(simp [errW_none,errW_some] <;> rfl)|(simp [*,errW_none,errW_some] <;> rfl),by repeat (first|(with_reducible first|exact HI0.out|apply IsS81.alloc|apply IsS81.drewN|apply IsS81.drew|apply IsS81.set_0|apply IsS81.set_1|apply IsS81.set_2)|exact HI0.out),by repeat (first|(with_reducible first|exact HB.out|apply below_alloc|apply pw_below_drewN|apply below_drew1|refine below_set ?_ (IsS81.ge HI0.out))|exact HB.out),by repeat (first|(with_reducible first|exact HK.out|apply KeepBut.set_|apply keep_drewN|apply keep_drew|apply keep_alloc)|exact HK.out)⟩
   ·rw [if_neg c9] at H
    have c9b0 : decide (t124 < a1) = false := decide_eq_false c9
    clear c9
    obtain ⟨ji13,hji13⟩ : ∃ j_ : Int,(wrap64 ((wrap64 (t126 + a1)) - a1)) = j_ := ⟨_,rfl⟩
    replace H : (if 0 ≤ (ji13) then (if (ji13) ≤ (wrap64 (t126 + a1)) then (if (wrap64 (t126 + a1)) ≤ (t125.size : Int) then (some (t125.extract ((ji13) : Int).toNat ((wrap64 (t126 + a1)) : Int).toNat,t125,wrap64 (t126 + a1),t127)) else (none)) else (none)) else (none)) = some (r1,r2,r3,r4) := by first|(rw [hji13] at H;exact H)|(simp only [hji13] at H ⊢;exact H)
    (try rw [hji13] at A3)
    (try rw [hji13] at A8)
    have hji13w : (IntKind.i64.wrap ((wrap64 (t126 + a1)) - a1)) = ji13 := (i64_w _).trans hji13
    by_cases c14 : 0 ≤ (ji13)
    ·rw [if_pos c14] at H
     have c14b0 := eq_true c14
     have c14b1 : decide (0 ≤ (ji13)) = true := decide_eq_true c14
     clear c14
     by_cases c15 : (ji13) ≤ (wrap64 (t126 + a1))
     ·rw [if_pos c15] at H
      have c15b0 := eq_true c15
      have c15b1 : decide ((ji13) ≤ (wrap64 (t126 + a1))) = true := decide_eq_true c15
      by_cases c16 : (wrap64 (t126 + a1)) ≤ (t125.size : Int)
      ·rw [if_pos c16] at H
       have c16b0 := eq_true c16
       have c16b1 : decide ((wrap64 (t126 + a1)) ≤ (t125.size : Int)) = true := decide_eq_true c16
       simp only [Option.some.injEq,Prod.mk.injEq] at H
       obtain ⟨rfl,rfl,rfl,rfl⟩ := H
       go_enter Try.func54,Try.ntmps54
       go_wp2_with (first|(go_at_call 50;(with_reducible refine (bits_Reader_good.calls g s0_0 s0_1 s0_2 true t121 t122 t123 w0 _ ?side1 ?side2 A3.out).mono ?_);(case side1=>repeat (first|(with_reducible first|exact HI0.out|apply IsS81.alloc|apply IsS81.drewN|apply IsS81.drew|apply IsS81.set_0|apply IsS81.set_1|apply IsS81.set_2)|exact HI0.out));(case side2=>repeat (first|(with_reducible first|exact HB.out|apply below_alloc|apply pw_below_drewN|apply below_drew1|refine below_set ?_ (IsS81.ge HI0.out))|exact HB.out));rintro e w17 ⟨rfl,hi,hb,hk⟩;have n0_ := Aside0.mk (KeepBut.trans (by repeat (first|(with_reducible first|exact HK.out|apply KeepBut.set_|apply keep_drewN|apply keep_drew|apply keep_alloc)|exact HK.out)) hk (.inl rfl));have n1_ := Aside0.mk (hb);have n2_ := Aside0.mk (hi);clear HK;clear HB;clear HI0;have HK := n0_;have HB := n1_;have HI0 := n2_;clear n0_ n1_ n2_;(try clear hb);(try clear hb2);(try clear hk);(try clear hi))|(go_at_call 35;(with_reducible refine (bits_Reader_Left.calls g t121 t122 t123 t124 t125 t126 t127 w0 _ ?side1 ?side2 A8.out).mono ?_);(case side1=>repeat (first|(with_reducible first|exact HI0.out|apply IsS81.alloc|apply IsS81.drewN|apply IsS81.drew|apply IsS81.set_0|apply IsS81.set_1|apply IsS81.set_2)|exact HI0.out));(case side2=>repeat (first|(with_reducible first|exact HB.out|apply below_alloc|apply pw_below_drewN|apply below_drew1|refine below_set ?_ (IsS81.ge HI0.out))|exact HB.out));rintro e w18 ⟨rfl,hi,hb,hk⟩;have n0_ := Aside0.mk (KeepBut.trans (by repeat (first|(with_reducible first|exact HK.out|apply KeepBut.set_|apply keep_drewN|apply keep_drew|apply keep_alloc)|exact HK.out)) hk (.inl rfl));have n1_ := Aside0.mk (hb);have n2_ := Aside0.mk (hi);clear HK;clear HB;clear HI0;have HK := n0_;have HB := n1_;have HI0 := n2_;clear n0_ n1_ n2_;(try clear hb);(try clear hb2);(try clear hk);(try clear hi);obtain ⟨HGz19,hgz19⟩ := HI0.out;have hcz19_0 := cellS81_0 HGz19;have hcz19_1 := cellS81_1 HGz19;have hcz19_2 := cellS81_2 HGz19;have hfz19_0 := blk_frozen HGz19 0;have hfz19_1 := blk_frozen HGz19 1;have hfz19_2 := blk_frozen HGz19 2;clear HGz19 hgz19))
       repeat (go_quiet (first|(go_at_call 50;(with_reducible refine (bits_Reader_good.calls g s0_0 s0_1 s0_2 true t121 t122 t123 w0 _ ?side1 ?side2 A3.out).mono ?_);(case side1=>repeat (first|(with_reducible first|exact HI0.out|apply IsS81.alloc|apply IsS81.drewN|apply IsS81.drew|apply IsS81.set_0|apply IsS81.set_1|apply IsS81.set_2)|exact HI0.out));(case side2=>repeat (first|(with_reducible first|exact HB.out|apply below_alloc|apply pw_below_drewN|apply below_drew1|refine below_set ?_ (IsS81.ge HI0.out))|exact HB.out));rintro e w17 ⟨rfl,hi,hb,hk⟩;have n0_ := Aside0.mk (KeepBut.trans (by repeat (first|(with_reducible first|exact HK.out|apply KeepBut.set_|apply keep_drewN|apply keep_drew|apply keep_alloc)|exact HK.out)) hk (.inl rfl));have n1_ := Aside0.mk (hb);have n2_ := Aside0.mk (hi);clear HK;clear HB;clear HI0;have HK := n0_;have HB := n1_;have HI0 := n2_;clear n0_ n1_ n2_;(try clear hb);(try clear hb2);(try clear hk);(try clear hi))|(go_at_call 35;(with_reducible refine (bits_Reader_Left.calls g t121 t122 t123 t124 t125 t126 t127 w0 _ ?side1 ?side2 A8.out).mono ?_);(case side1=>repeat (first|(with_reducible first|exact HI0.out|apply IsS81.alloc|apply IsS81.drewN|apply IsS81.drew|apply IsS81.set_0|apply IsS81.set_1|apply IsS81.set_2)|exact HI0.out));(case side2=>repeat (first|(with_reducible first|exact HB.out|apply below_alloc|apply pw_below_drewN|apply below_drew1|refine below_set ?_ (IsS81.ge HI0.out))|exact HB.out));rintro e w18 ⟨rfl,hi,hb,hk⟩;have n0_ := Aside0.mk (KeepBut.trans (by repeat (first|(with_reducible first|exact HK.out|apply KeepBut.set_|apply keep_drewN|apply keep_drew|apply keep_alloc)|exact HK.out)) hk (.inl rfl));have n1_ := Aside0.mk (hb);have n2_ := Aside0.mk (hi);clear HK;clear HB;clear HI0;have HK := n0_;have HB := n1_;have HI0 := n2_;clear n0_ n1_ n2_;(try clear hb);(try clear hb2);(try clear hk);(try clear hi);obtain ⟨HGz19,hgz19⟩ := HI0.out;have hcz19_0 := cellS81_0 HGz19;have hcz19_1 := cellS81_1 HGz19;have hcz19_2 := cellS81_2 HGz19;have hfz19_0 := blk_frozen HGz19 0;have hfz19_1 := blk_frozen HGz19 1;have hfz19_2 := blk_frozen HGz19 2;clear HGz19 hgz19));try go_wp2_with (first|(go_at_call 50;(with_reducible refine (bits_Reader_good.calls g s0_0 s0_1 s0_2 true t121 t122 t123 w0 _ ?side1 ?side2 A3.out).mono ?_);(case side1=>repeat (first|(with_reducible first|exact HI0.out|apply IsS81.alloc|apply IsS81.drewN|apply IsS81.drew|apply IsS81.set_0|apply IsS81.set_1|apply IsS81.set_2)|exact HI0.out));(case side2=>repeat (first|(with_reducible first|exact HB.out|apply below_alloc|apply pw_below_drewN|apply below_drew1|refine below_set ?_ (IsS81.ge HI0.out))|exact HB.out));rintro e w17 ⟨rfl,hi,hb,hk⟩;have n0_ := Aside0.mk (KeepBut.trans (by repeat (first|(with_reducible first|exact HK.out|apply KeepBut.set_|apply keep_drewN|apply keep_drew|apply keep_alloc)|exact HK.out)) hk (.inl rfl));have n1_ := Aside0.mk (hb);have n2_ := Aside0.mk (hi);clear HK;clear HB;clear HI0;have HK := n0_;have HB := n1_;have HI0 := n2_;clear n0_ n1_ n2_;(try clear hb);(try clear hb2);(try clear hk);(try clear hi))|(go_at_call 35;(with_reducible refine (bits_Reader_Left.calls g t121 t122 t123 t124 t125 t126 t127 w0 _ ?side1 ?side2 A8.out).mono ?_);(case side1=>repeat (first|(with_reducible first|exact HI0.out|apply IsS81.alloc|apply IsS81.drewN|apply IsS81.drew|apply IsS81.set_0|apply IsS81.set_1|apply IsS81.set_2)|exact HI0.out));(case side2=>repeat (first|(with_reducible first|exact HB.out|apply below_alloc|apply pw_below_drewN|apply below_drew1|refine below_set ?_ (IsS81.ge HI0.out))|exact HB.out));rintro e w18 ⟨rfl,hi,hb,hk⟩;have n0_ := Aside0.mk (KeepBut.trans (by repeat (first|(with_reducible first|exact HK.out|apply KeepBut.set_|apply keep_drewN|apply keep_drew|apply keep_alloc)|exact HK.out)) hk (.inl rfl));have n1_ := Aside0.mk (hb);have n2_ := Aside0.mk (hi);clear HK;clear HB;clear HI0;have HK := n0_;have HB := n1_;have HI0 := n2_;clear n0_ n1_ n2_;(try clear hb);(try clear hb2);(try clear hk);(try clear hi);obtain ⟨HGz19,hgz19⟩ := HI0.out;have hcz19_0 := cellS81_0 HGz19;have hcz19_1 := cellS81_1 HGz19;have hcz19_2 := cellS81_2 HGz19;have hfz19_0 := blk_frozen HGz19 0;have hfz19_1 := blk_frozen HGz19 1;have hfz19_2 := blk_frozen HGz19 2;clear HGz19 hgz19)))
       go_ret
       exact ⟨by first|rfl|(simp [errW_none,errW_some] <;> rfl)|(simp only [← hji13];first|rfl|(simp [errW_none,errW_some] <;> rfl))|(simp [*,errW_none,errW_some] <;> rfl),by repeat (first|(with_reducible first|exact HI0.out|apply IsS81.alloc|apply IsS81.drewN|apply IsS81.drew|apply IsS81.set_0|apply IsS81.set_1|apply IsS81.set_2)|exact HI0.out),by repeat (first|(with_reducible first|exact HB.out|apply below_alloc|apply pw_below_drewN|apply below_drew1|refine below_set ?_ (IsS81.ge HI0.out))|exact HB.out),by repeat (first|(with_reducible first|exact HK.out|apply KeepBut.set_|apply keep_drewN|apply keep_drew|apply keep_alloc)|exact HK.out)⟩
      ·rw [if_neg c16] at H
       exact absurd H (by simp)
     ·rw [if_neg c15] at H
      exact absurd H (by simp)
    ·rw [if_neg c14] at H
     exact absurd H (by simp)
 ·replace c4 := Bool.eq_false_iff.mpr c4
  subst c4
  have H1 : (some ((⟨#[]⟩ : ByteArray),t121,t122,t123)) = some (r1,r2,r3,r4) := by rw [if_neg (show ¬ (false = true) by decide)] at H;exact H
  clear H
  have H := H1
  clear H1
  simp only [Option.some.injEq,Prod.mk.injEq] at H
  obtain ⟨rfl,rfl,rfl,rfl⟩ := H
  go_enter Try.func54,Try.ntmps54
  go_wp2_with (first|(go_at_call 50;(with_reducible refine (bits_Reader_good.calls g s0_0 s0_1 s0_2 false t121 t122 t123 w0 _ ?side1 ?side2 A3.out).mono ?_);(case side1=>repeat (first|(with_reducible first|exact HI0.out|apply IsS81.alloc|apply IsS81.drewN|apply IsS81.drew|apply IsS81.set_0|apply IsS81.set_1|apply IsS81.set_2)|exact HI0.out));(case side2=>repeat (first|(with_reducible first|exact HB.out|apply below_alloc|apply pw_below_drewN|apply below_drew1|refine below_set ?_ (IsS81.ge HI0.out))|exact HB.out));rintro e w20 ⟨rfl,hi,hb,hk⟩;have n0_ := Aside0.mk (KeepBut.trans (by repeat (first|(with_reducible first|exact HK.out|apply KeepBut.set_|apply keep_drewN|apply keep_drew|apply keep_alloc)|exact HK.out)) hk (.inl rfl));have n1_ := Aside0.mk (hb);have n2_ := Aside0.mk (hi);clear HK;clear HB;clear HI0;have HK := n0_;have HB := n1_;have HI0 := n2_;clear n0_ n1_ n2_;(try clear hb);(try clear hb2);(try clear hk);(try clear hi)))
  repeat (go_quiet (first|(go_at_call 50;(with_reducible refine (bits_Reader_good.calls g s0_0 s0_1 s0_2 false t121 t122 t123 w0 _ ?side1 ?side2 A3.out).mono ?_);(case side1=>repeat (first|(with_reducible first|exact HI0.out|apply IsS81.alloc|apply IsS81.drewN|apply IsS81.drew|apply IsS81.set_0|apply IsS81.set_1|apply IsS81.set_2)|exact HI0.out));(case side2=>repeat (first|(with_reducible first|exact HB.out|apply below_alloc|apply pw_below_drewN|apply below_drew1|refine below_set ?_ (IsS81.ge HI0.out))|exact HB.out));rintro e w20 ⟨rfl,hi,hb,hk⟩;have n0_ := Aside0.mk (KeepBut.trans (by repeat (first|(with_reducible first|exact HK.out|apply KeepBut.set_|apply keep_drewN|apply keep_drew|apply keep_alloc)|exact HK.out)) hk (.inl rfl));have n1_ := Aside0.mk (hb);have n2_ := Aside0.mk (hi);clear HK;clear HB;clear HI0;have HK := n0_;have HB := n1_;have HI0 := n2_;clear n0_ n1_ n2_;(try clear hb);(try clear hb2);(try clear hk);(try clear hi)));try go_wp2_with (first|(go_at_call 50;(with_reducible refine (bits_Reader_good.calls g s0_0 s0_1 s0_2 false t121 t122 t123 w0 _ ?side1 ?side2 A3.out).mono ?_);(case side1=>repeat (first|(with_reducible first|exact HI0.out|apply IsS81.alloc|apply IsS81.drewN|apply IsS81.drew|apply IsS81.set_0|apply IsS81.set_1|apply IsS81.set_2)|exact HI0.out));(case side2=>repeat (first|(with_reducible first|exact HB.out|apply below_alloc|apply pw_below_drewN|apply below_drew1|refine below_set ?_ (IsS81.ge HI0.out))|exact HB.out));rintro e w20 ⟨rfl,hi,hb,hk⟩;have n0_ := Aside0.mk (KeepBut.trans (by repeat (first|(with_reducible first|exact HK.out|apply KeepBut.set_|apply keep_drewN|apply keep_drew|apply keep_alloc)|exact HK.out)) hk (.inl rfl));have n1_ := Aside0.mk (hb);have n2_ := Aside0.mk (hi);clear HK;clear HB;clear HI0;have HK := n0_;have HB := n1_;have HI0 := n2_;clear n0_ n1_ n2_;(try clear hb);(try clear hb2);(try clear hk);(try clear hi))))
  go_ret
  exact ⟨by first|rfl|(simp [errW_none,errW_some] <;> rfl)|(simp [*,errW_none,errW_some] <;> rfl),by repeat (first|(with_reducible first|exact HI0.out|apply IsS81.alloc|apply IsS81.drewN|apply IsS81.drew|apply IsS81.set_0|apply IsS81.set_1|apply IsS81.set_2)|exact HI0.out),by repeat (first|(with_reducible first|exact HB.out|apply below_alloc|apply pw_below_drewN|apply below_drew1|refine below_set ?_ (IsS81.ge HI0.out))|exact HB.out),by repeat (first|(with_reducible first|exact HK.out|apply KeepBut.set_|apply keep_drewN|apply keep_drew|apply keep_alloc)|exact HK.out)⟩

end Go.Proofs.Ythcjcmgdblhhfaa.PU

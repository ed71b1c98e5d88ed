/- The machine side of these statements: what each Go function computes as a plain function, and that its call computes just that. Written by a program of mine (wip/drive.py). No conditions. -/
import Derived.Test.YthcjcmgdblhhfaaPVx0
namespace Go.Proofs.Ythcjcmgdblhhfaa.PV
open Go.RowKit Go.Proofs.YthcjcmgdblhhfaaW.PrintWords Go.Proofs.YthcjcmgdblhhfaaW.PrintLast Go.Proofs.YthcjcmgdblhhfaaW.PrintMore
attribute [local go_sem] max2_int min2_int max_two min_two max_three min_three max_four min_four   -- for this text's walks alone
set_option linter.unusedVariables false
set_option linter.unusedSimpArgs false

/-! ### bits_Uvarint: function 47 -/
mutual
def bits_Uvarint.j0 : Nat → ByteArray → Int → Int → Bool → Option (Int × Int × Int)
 | 0,_,_,_,_=>none
 | k + 1,x0,x1,x4,x16=>if x16 = true then (some (0,0,1)) else (bits_Uvarint.l0 k x0 x1 x4 0)
def bits_Uvarint.l0 : Nat → ByteArray → Int → Int → Int → Option (Int × Int × Int)
 | 0,_,_,_,_=>none
 | k + 1,x0,x1,x4,x7=>if (wrap64 (x1 + x7)) = (x0.size : Int) then (some (0,0,8)) else (if 0 ≤ (wrap64 (x1 + x7)) then (if (wrap64 (x1 + x7)) < (x0.size : Int) then (if x7 = 9 then (bits_Uvarint.j2 k x0 x1 x4 x7 (IntKind.u64.wrap (bt x0 (wrap64 (x1 + x7)))) (decide ((IntKind.u64.wrap (bt x0 (wrap64 (x1 + x7)))) > 1))) else (bits_Uvarint.j2 k x0 x1 x4 x7 (IntKind.u64.wrap (bt x0 (wrap64 (x1 + x7)))) false)) else (none)) else (none))
def bits_Uvarint.j2 : Nat → ByteArray → Int → Int → Int → Int → Bool → Option (Int × Int × Int)
 | 0,_,_,_,_,_,_=>none
 | k + 1,x0,x1,x4,x7,x8,x31=>if x31 = true then (some (0,0,4)) else (if x8 < 128 then (if 0 ≤ (wrap64 (7 * x7)) then (some (Go.bits .or .u64 x4 (shl .u64 x8 (wrap64 (7 * x7))),wrap64 ((wrap64 (x1 + x7)) + 1),0)) else (none)) else (if 0 ≤ (wrap64 (7 * x7)) then (bits_Uvarint.l0 k x0 x1 (Go.bits .or .u64 x4 (shl .u64 (Go.bits .andNot .u64 x8 128) (wrap64 (7 * x7)))) (wrap64 (x7 + 1))) else (none)))
end
def bits_Uvarint.f (k : Nat) (a0 : ByteArray) (a1 : Int) : Option (Int × Int × Int) := if a1 < 0 then (bits_Uvarint.j0 k a0 a1 0 true) else (bits_Uvarint.j0 k a0 a1 0 (decide (a1 > (a0.size : Int))))
theorem bits_Uvarint.mono_l : ∀ k, (∀ y0 y1 y2 y3, LeO (bits_Uvarint.j0 k y0 y1 y2 y3) (bits_Uvarint.j0 (k + 1) y0 y1 y2 y3)) ∧ (∀ y0 y1 y2 y3, LeO (bits_Uvarint.l0 k y0 y1 y2 y3) (bits_Uvarint.l0 (k + 1) y0 y1 y2 y3)) ∧ (∀ y0 y1 y2 y3 y4 y5, LeO (bits_Uvarint.j2 k y0 y1 y2 y3 y4 y5) (bits_Uvarint.j2 (k + 1) y0 y1 y2 y3 y4 y5))
 | 0=>⟨fun _ _ _ _ r h=>by simp [bits_Uvarint.j0] at h,fun _ _ _ _ r h=>by simp [bits_Uvarint.l0] at h,fun _ _ _ _ _ _ r h=>by simp [bits_Uvarint.j2] at h⟩
 | k + 1=>by
  obtain ⟨ih0,ih1,ih2⟩ := bits_Uvarint.mono_l k
  refine ⟨?_,?_,?_⟩
  ·intro y0 y1 y2 y3
   unfold bits_Uvarint.j0
   repeat' first
   | (with_reducible exact ih0 _ _ _ _)
   | (with_reducible exact ih1 _ _ _ _)
   | (with_reducible exact ih2 _ _ _ _ _ _)
   | (with_reducible exact LeO.refl _)
   | (with_reducible exact LeO.none _)
   | (with_reducible refine LeO.ite ?_ ?_)
   | (with_reducible refine LeO.bind ?_ (fun _=>?_))
   | exact ih0 _ _ _ _
   | exact ih1 _ _ _ _
   | exact ih2 _ _ _ _ _ _
   | exact LeO.none _
   | refine LeO.ite ?_ ?_
   | refine LeO.bind ?_ (fun _=>?_)
  ·intro y0 y1 y2 y3
   unfold bits_Uvarint.l0
   repeat' first
   | (with_reducible exact ih0 _ _ _ _)
   | (with_reducible exact ih1 _ _ _ _)
   | (with_reducible exact ih2 _ _ _ _ _ _)
   | (with_reducible exact LeO.refl _)
   | (with_reducible exact LeO.none _)
   | (with_reducible refine LeO.ite ?_ ?_)
   | (with_reducible refine LeO.bind ?_ (fun _=>?_))
   | exact ih0 _ _ _ _
   | exact ih1 _ _ _ _
   | exact ih2 _ _ _ _ _ _
   | exact LeO.none _
   | refine LeO.ite ?_ ?_
   | refine LeO.bind ?_ (fun _=>?_)
  ·intro y0 y1 y2 y3 y4 y5
   unfold bits_Uvarint.j2
   repeat' first
   | (with_reducible exact ih0 _ _ _ _)
   | (with_reducible exact ih1 _ _ _ _)
   | (with_reducible exact ih2 _ _ _ _ _ _)
   | (with_reducible exact LeO.refl _)
   | (with_reducible exact LeO.none _)
   | (with_reducible refine LeO.ite ?_ ?_)
   | (with_reducible refine LeO.bind ?_ (fun _=>?_))
   | exact ih0 _ _ _ _
   | exact ih1 _ _ _ _
   | exact ih2 _ _ _ _ _ _
   | exact LeO.none _
   | refine LeO.ite ?_ ?_
   | refine LeO.bind ?_ (fun _=>?_)
theorem bits_Uvarint.mono : ∀ a0 a1 k, LeO (bits_Uvarint.f k a0 a1) (bits_Uvarint.f (k + 1) a0 a1) := by
 intro a0 a1 k
 obtain ⟨ih0,ih1,ih2⟩ := bits_Uvarint.mono_l k
 unfold bits_Uvarint.f
 repeat' first
   | (with_reducible exact ih0 _ _ _ _)
   | (with_reducible exact ih1 _ _ _ _)
   | (with_reducible exact ih2 _ _ _ _ _ _)
   | (with_reducible exact LeO.refl _)
   | (with_reducible exact LeO.none _)
   | (with_reducible refine LeO.ite ?_ ?_)
   | (with_reducible refine LeO.bind ?_ (fun _=>?_))
   | exact ih0 _ _ _ _
   | exact ih1 _ _ _ _
   | exact ih2 _ _ _ _ _ _
   | exact LeO.none _
   | refine LeO.ite ?_ ?_
   | refine LeO.bind ?_ (fun _=>?_)
set_option maxHeartbeats 8000000 in
set_option maxRecDepth 100000 in
theorem bits_Uvarint.calls (k : Nat) (a0 : ByteArray) (a1 : Int) (r1 : Int) (r2 : Int) (r3 : Int) (w : World) (h : bits_Uvarint.f k a0 a1 = some (r1, r2, r3)) :
  Calls Try.prog 47 #[.string a0,.int .i64 a1] w fun e w'=>e = .returned (.tuple #[.int .u64 r1,.int .i64 r2,.int .i64 r3]) ∧ Drawn0 w w' := by
 have H : (if a1 < 0 then (bits_Uvarint.j0 k a0 a1 0 true) else (bits_Uvarint.j0 k a0 a1 0 (decide (a1 > (a0.size : Int))))) = some (r1,r2,r3) := h
 clear h
 have HC3 := Aside0.mk H
 clear H
 go_enter Try.func47,Try.ntmps47
 go_wp2_with fail
 go_step3
 go_upto_region 1 with (fail)
 go_cut [16] (fun v16 wc=>∃ (kq : Nat) (x16_2 : Bool),v16 = .bool x16_2 ∧ Aside0 (bits_Uvarint.j0 kq a0 a1 0 x16_2 = some (r1,r2,r3)) ∧ Aside0 (kq ≤ k) ∧ Drawn0 w wc)
 case first =>
  have H := HC3.out
  clear HC3
  by_cases c4 : a1 < 0
  ·rw [if_pos c4] at H
   have c4b0 : decide (a1 < 0) = true := decide_eq_true c4
   clear c4
   (first|rw [c4b0]|(simp only [i64_w,i32_w];rw [c4b0])|skip)
   have H' := Aside0.mk H
   clear H
   go_wp2
   go_meet
   case rel=>exact ⟨_,(true),q4_,H',⟨q50_⟩,q18_⟩
  ·rw [if_neg c4] at H
   have c4b0 : decide (a1 < 0) = false := decide_eq_false c4
   clear c4
   (first|rw [c4b0]|(simp only [i64_w,i32_w];rw [c4b0])|skip)
   have H' := Aside0.mk H
   clear H
   go_wp2
   go_meet
   case rel=>exact ⟨_,(decide (a1 > (a0.size : Int))),q4_,H',⟨q50_⟩,q18_⟩
 case rest =>
  clear HC3
  try clear p2
  try clear c4
  try clear c4b0
  obtain ⟨kq,x16_2,rfl,HA,HJ2,⟨mc2,rfl⟩⟩ := hcut
  cases kq with
  | zero=>exact absurd HA.out (by simp [bits_Uvarint.j0])
  | succ kj2 =>
   have H := HA.out
   clear HA
   simp only [bits_Uvarint.j0] at H
   by_cases c5 : x16_2 = true
   ·subst c5
    have H1 : (some (0,0,1)) = some (r1,r2,r3) := by rw [if_pos rfl] at H;exact H
    clear H
    have H := H1
    clear H1
    simp only [Option.some.injEq,Prod.mk.injEq] at H
    obtain ⟨rfl,rfl,rfl⟩ := H
    go_wp2
    (try rw [Exit.noGoto_ret])
    go_ret3
    exact ⟨q4_,q18_⟩
   ·replace c5 := Bool.eq_false_iff.mpr c5
    subst c5
    have H1 : (bits_Uvarint.l0 kj2 a0 a1 0 0) = some (r1,r2,r3) := by rw [if_neg (show ¬ (false = true) by decide)] at H;exact H
    clear H
    have H := H1
    clear H1
    have H' := Aside0.mk H
    clear H
    go_wp2
    go_step3
    go_wp2
    go_loopg [4,7] kj2 (fun kq v4 v7 w'=>∃ (x4_2 : Int) (x7_2 : Int),v4 = .int .u64 x4_2 ∧ v7 = .int .i64 x7_2 ∧ Aside0 (bits_Uvarint.l0 kq a0 a1 x4_2 x7_2 = some (r1,r2,r3)) ∧ Aside0 (kq ≤ kj2) ∧ Drawn0 w w')
    case atStart=>exact ⟨(0),(0),q4_,q4_,H',⟨Nat.le_refl _⟩,q18_⟩
    case round =>
     clear H'
     try clear c2
     try clear p2
     try clear c4
     try clear c4b0
     try clear c5
     try clear p2
     obtain ⟨x4_2,x7_2,rfl,rfl,HA,HK2,⟨m2,rfl⟩⟩ := hrel
     cases gk with
     | zero=>exact absurd HA.out (by simp [bits_Uvarint.l0])
     | succ k2 =>
      have H := HA.out
      clear HA
      simp only [bits_Uvarint.l0] at H
      by_cases c6 : (wrap64 (a1 + x7_2)) = (a0.size : Int)
      ·rw [if_pos c6] at H
       have c6b0 : ((wrap64 (a1 + x7_2)) == (a0.size : Int)) = true := beq_iff_eq.mpr c6
       have c6b1 : ((wrap64 (a1 + x7_2)) != (a0.size : Int)) = false := bne_eq_false_iff_eq.mpr c6
       clear c6
       simp only [Option.some.injEq,Prod.mk.injEq] at H
       obtain ⟨rfl,rfl,rfl⟩ := H
       go_wp2
       (try rw [Exit.noGoto_ret])
       go_ret3
       exact ⟨q4_,q18_⟩
      ·rw [if_neg c6] at H
       have c6b0 : ((wrap64 (a1 + x7_2)) == (a0.size : Int)) = false := beq_eq_false_iff_ne.mpr c6
       have c6b1 : ((wrap64 (a1 + x7_2)) != (a0.size : Int)) = true := bne_iff_ne.mpr c6
       obtain ⟨ji7,hji7⟩ : ∃ j_ : Int,(wrap64 (a1 + x7_2)) = j_ := ⟨_,rfl⟩
       replace H : (if 0 ≤ (ji7) then (if (ji7) < (a0.size : Int) then (if x7_2 = 9 then (bits_Uvarint.j2 k2 a0 a1 x4_2 x7_2 (IntKind.u64.wrap (bt a0 (ji7))) (decide ((IntKind.u64.wrap (bt a0 (ji7))) > 1))) else (bits_Uvarint.j2 k2 a0 a1 x4_2 x7_2 (IntKind.u64.wrap (bt a0 (ji7))) false)) else (none)) else (none)) = some (r1,r2,r3) := by first|(rw [hji7] at H;exact H)|(simp only [hji7] at H ⊢;exact H)
       (try rw [hji7] at c6b0)
       (try rw [hji7] at c6b1)
       have hji7w : (IntKind.i64.wrap (a1 + x7_2)) = ji7 := (i64_w _).trans hji7
       by_cases c8 : 0 ≤ (ji7)
       ·rw [if_pos c8] at H
        have c8b0 : decide (0 ≤ (ji7)) = true := decide_eq_true c8
        clear c8
        by_cases c9 : (ji7) < (a0.size : Int)
        ·rw [if_pos c9] at H
         have c9b0 : decide ((ji7) < (a0.size : Int)) = true := decide_eq_true c9
         clear c9
         have HC11 := Aside0.mk H
         clear H
         have p10 : 0 ≤ ((ji7) : Int) := of_decide_eq_true q3_
         have q10 : (ji7) < (a0.size : Int) := of_decide_eq_true q3_
         have hx10 := bt_at a0 (ji7)
         replace p10 := eq_true p10
         replace q10 := eq_true q10
         go_upto_region 8 with (fail)
         go_cut [31] (fun v31 wc=>∃ (kq : Nat) (x31_10 : Bool),v31 = .bool x31_10 ∧ Aside0 (bits_Uvarint.j2 kq a0 a1 x4_2 x7_2 (IntKind.u64.wrap (bt a0 (ji7))) x31_10 = some (r1,r2,r3)) ∧ Aside0 (kq ≤ k2) ∧ Drawn0 w wc)
         case first =>
          have H := HC11.out
          clear HC11
          by_cases c12 : x7_2 = 9
          ·rw [if_pos c12] at H
           have c12b0 : (x7_2 == 9) = true := beq_iff_eq.mpr c12
           have c12b1 : (x7_2 != 9) = false := bne_eq_false_iff_eq.mpr c12
           clear c12
           (first|rw [c12b0]|(simp only [i64_w,i32_w];rw [c12b0])|skip)
           have H' := Aside0.mk H
           clear H
           go_wp2
           go_meet
           case rel=>exact ⟨_,(decide ((IntKind.u64.wrap (bt a0 (ji7))) > 1)),(by first|rfl|(simp;done)|(simp only [← hji7] <;> (first|rfl|simp))|(simp [*];done)),H',⟨q94_⟩,q18_⟩
          ·rw [if_neg c12] at H
           have c12b0 : (x7_2 == 9) = false := beq_eq_false_iff_ne.mpr c12
           have c12b1 : (x7_2 != 9) = true := bne_iff_ne.mpr c12
           (first|rw [c12b0]|(simp only [i64_w,i32_w];rw [c12b0])|skip)
           have H' := Aside0.mk H
           clear H
           go_wp2
           go_meet
           case rel=>exact ⟨_,(false),q4_,H',⟨q94_⟩,q18_⟩
         case rest =>
          clear HC11
          try clear c1
          try clear p1
          try clear q1
          try clear hx1
          try clear c2
          try clear p2
          try clear c4
          try clear c4b0
          try clear c5
          try clear c6
          try clear c6b0
          try clear c6b1
          try clear p6
          try clear c8
          try clear c8b0
          try clear c9
          try clear c9b0
          try clear p10
          try clear q10
          try clear hx10
          try clear c12
          try clear c12b0
          try clear c12b1
          try clear p10
          try clear p2
          try clear q10
          obtain ⟨kq,x31_10,rfl,HA,HJ10,⟨mc10,rfl⟩⟩ := hcut
          cases kq with
          | zero=>exact absurd HA.out (by simp [bits_Uvarint.j2])
          | succ kj10 =>
           have H := HA.out
           clear HA
           simp only [bits_Uvarint.j2] at H
           by_cases c13 : x31_10 = true
           ·subst c13
            have H1 : (some (0,0,4)) = some (r1,r2,r3) := by rw [if_pos rfl] at H;exact H
            clear H
            have H := H1
            clear H1
            simp only [Option.some.injEq,Prod.mk.injEq] at H
            obtain ⟨rfl,rfl,rfl⟩ := H
            go_wp2
            (try rw [Exit.noGoto_ret])
            go_ret3
            exact ⟨by first|rfl|(simp;done)|(simp only [← hji7] <;> (first|rfl|simp))|(simp [*];done),q18_⟩
           ·replace c13 := Bool.eq_false_iff.mpr c13
            subst c13
            have H1 : (if (IntKind.u64.wrap (bt a0 (ji7))) < 128 then (if 0 ≤ (wrap64 (7 * x7_2)) then (some (Go.bits .or .u64 x4_2 (shl .u64 (IntKind.u64.wrap (bt a0 (ji7))) (wrap64 (7 * x7_2))),wrap64 ((wrap64 (a1 + x7_2)) + 1),0)) else (none)) else (if 0 ≤ (wrap64 (7 * x7_2)) then (bits_Uvarint.l0 kj10 a0 a1 (Go.bits .or .u64 x4_2 (shl .u64 (Go.bits .andNot .u64 (IntKind.u64.wrap (bt a0 (ji7))) 128) (wrap64 (7 * x7_2)))) (wrap64 (x7_2 + 1))) else (none))) = some (r1,r2,r3) := by rw [if_neg (show ¬ (false = true) by decide)] at H;exact H
            clear H
            have H := H1
            clear H1
            by_cases c14 : (IntKind.u64.wrap (bt a0 (ji7))) < 128
            ·rw [if_pos c14] at H
             have c14b0 : decide ((IntKind.u64.wrap (bt a0 (ji7))) < 128) = true := decide_eq_true c14
             clear c14
             obtain ⟨ji15,hji15⟩ : ∃ j_ : Int,(wrap64 (7 * x7_2)) = j_ := ⟨_,rfl⟩
             replace H : (if 0 ≤ (ji15) then (some (Go.bits .or .u64 x4_2 (shl .u64 (IntKind.u64.wrap (bt a0 (ji7))) (ji15)),wrap64 ((wrap64 (a1 + x7_2)) + 1),0)) else (none)) = some (r1,r2,r3) := by first|(rw [hji15] at H;exact H)|(simp only [hji15] at H ⊢;exact H)
             have hji15w : (IntKind.i64.wrap (7 * x7_2)) = ji15 := (i64_w _).trans hji15
             by_cases c16 : 0 ≤ (ji15)
             ·rw [if_pos c16] at H
              have c16b0 := eq_true c16
              have c16b1 : decide (0 ≤ (ji15)) = true := decide_eq_true c16
              clear c16
              obtain ⟨ji17,hji17⟩ : ∃ j_ : Int,(shl .u64 (IntKind.u64.wrap (bt a0 (ji7))) (ji15)) = j_ := ⟨_,rfl⟩
              replace H : (some (Go.bits .or .u64 x4_2 (ji17),wrap64 ((wrap64 (a1 + x7_2)) + 1),0)) = some (r1,r2,r3) := by first|(rw [hji17] at H;exact H)|(simp only [hji17] at H ⊢;exact H)
              have hji17_ : (IntKind.u64.wrap ((IntKind.u64.wrap (bt a0 (ji7))) * 2 ^ min (ji15).toNat 64)) = ji17 := hji17
              have hji17z : (ji15) ≤ 64 → (IntKind.u64.wrap ((IntKind.u64.wrap (bt a0 (ji7))) * 2 ^ (ji15).toNat)) = ji17 := shl_small hji17
              simp only [Option.some.injEq,Prod.mk.injEq] at H
              obtain ⟨rfl,rfl,rfl⟩ := H
              go_wp2
              (try rw [Exit.noGoto_ret])
              go_ret3
              exact ⟨by first|rfl|(simp;done)|(simp only [← hji7,← hji15,← hji17] <;> (first|rfl|simp))|(simp [*];done),q18_⟩
             ·rw [if_neg c16] at H
              exact absurd H (by simp)
            ·rw [if_neg c14] at H
             have c14b0 : decide ((IntKind.u64.wrap (bt a0 (ji7))) < 128) = false := decide_eq_false c14
             clear c14
             obtain ⟨ji18,hji18⟩ : ∃ j_ : Int,(wrap64 (7 * x7_2)) = j_ := ⟨_,rfl⟩
             replace H : (if 0 ≤ (ji18) then (bits_Uvarint.l0 kj10 a0 a1 (Go.bits .or .u64 x4_2 (shl .u64 (Go.bits .andNot .u64 (IntKind.u64.wrap (bt a0 (ji7))) 128) (ji18))) (wrap64 (x7_2 + 1))) else (none)) = some (r1,r2,r3) := by first|(rw [hji18] at H;exact H)|(simp only [hji18] at H ⊢;exact H)
             have hji18w : (IntKind.i64.wrap (7 * x7_2)) = ji18 := (i64_w _).trans hji18
             by_cases c19 : 0 ≤ (ji18)
             ·rw [if_pos c19] at H
              have c19b0 := eq_true c19
              have c19b1 : decide (0 ≤ (ji18)) = true := decide_eq_true c19
              clear c19
              obtain ⟨ji20,hji20⟩ : ∃ j_ : Int,(shl .u64 (Go.bits .andNot .u64 (IntKind.u64.wrap (bt a0 (ji7))) 128) (ji18)) = j_ := ⟨_,rfl⟩
              replace H : (bits_Uvarint.l0 kj10 a0 a1 (Go.bits .or .u64 x4_2 (ji20)) (wrap64 (x7_2 + 1))) = some (r1,r2,r3) := by first|(rw [hji20] at H;exact H)|(simp only [hji20] at H ⊢;exact H)
              have hji20_ : (IntKind.u64.wrap ((Go.bits .andNot .u64 (IntKind.u64.wrap (bt a0 (ji7))) 128) * 2 ^ min (ji18).toNat 64)) = ji20 := hji20
              have hji20z : (ji18) ≤ 64 → (IntKind.u64.wrap ((Go.bits .andNot .u64 (IntKind.u64.wrap (bt a0 (ji7))) 128) * 2 ^ (ji18).toNat)) = ji20 := shl_small hji20
              have H' := Aside0.mk H
              clear H
              go_wp2
              go_roundg kj10
              case measure=>have := HJ2.out;have := HK2.out;have := HJ10.out;omega
              case rel=>exact ⟨(Go.bits .or .u64 x4_2 (ji20)),(wrap64 (x7_2 + 1)),(by first|rfl|(simp;done)|(simp only [← hji20] <;> (first|rfl|simp))|(simp [*];done)),q4_,H',⟨by have := HJ2.out;have := HK2.out;have := HJ10.out;omega⟩,q18_⟩
             ·rw [if_neg c19] at H
              exact absurd H (by simp)
        ·rw [if_neg c9] at H
         exact absurd H (by simp)
       ·rw [if_neg c8] at H
        exact absurd H (by simp)

/-! ### snappy_Size: function 27 -/
def snappy_Size.f (k : Nat) (a0 : ByteArray) : Option (Int × Int) := (bits_Uvarint.f k a0 0).bind fun bt101 => (if bt101.2.2 = 0 then (if bt101.1 ≥ 4294967296 then (some (0, 4)) else (some (bt101.1, 0))) else (some (0, bt101.2.2)))
theorem snappy_Size.mono : ∀ a0 k, LeO (snappy_Size.f k a0) (snappy_Size.f (k + 1) a0) := by
 intro a0 k
 unfold snappy_Size.f
 repeat' first
   | (with_reducible exact bits_Uvarint.mono _ _ _)
   | (with_reducible exact LeO.refl _)
   | (with_reducible exact LeO.none _)
   | (with_reducible refine LeO.ite ?_ ?_)
   | (with_reducible refine LeO.bind ?_ (fun _=>?_))
   | exact bits_Uvarint.mono _ _ _
   | exact LeO.none _
   | refine LeO.ite ?_ ?_
   | refine LeO.bind ?_ (fun _=>?_)
set_option maxHeartbeats 8000000 in
set_option maxRecDepth 100000 in
theorem snappy_Size.calls (k : Nat) (a0 : ByteArray) (r1 : Int) (r2 : Int) (w : World) (h : snappy_Size.f k a0 = some (r1, r2)) :
  Calls Try.prog 27 #[.string a0] w fun e w'=>e = .returned (.tuple #[.int .u64 r1,.int .i64 r2]) ∧ Drawn0 w w' := by
 have H : ((bits_Uvarint.f k a0 0).bind fun bt101=>(if bt101.2.2 = 0 then (if bt101.1 ≥ 4294967296 then (some (0,4)) else (some (bt101.1,0))) else (some (0,bt101.2.2)))) = some (r1,r2) := h
 clear h
 replace H := Option.bind_eq_some_iff.mp H
 obtain ⟨⟨t101,t102,t103⟩,A20,H⟩ := H
 replace H : (if t103 = 0 then (if t101 ≥ 4294967296 then (some (0,4)) else (some (t101,0))) else (some (0,t103))) = some (r1,r2) := H
 have A2 := Aside0.mk A20
 clear A20
 by_cases c3 : t103 = 0
 ·rw [if_pos c3] at H
  have c3b0 : (t103 == 0) = true := beq_iff_eq.mpr c3
  have c3b1 : (t103 != 0) = false := bne_eq_false_iff_eq.mpr c3
  clear c3
  by_cases c4 : t101 ≥ 4294967296
  ·rw [if_pos c4] at H
   have c4b0 : decide (4294967296 ≤ t101) = true := decide_eq_true c4
   clear c4
   simp only [Option.some.injEq,Prod.mk.injEq] at H
   obtain ⟨rfl,rfl⟩ := H
   go_enter Try.func27,Try.ntmps27
   go_wp2_with (first|((with_reducible refine gate_callee (f := 47) rfl ?_);refine goesL_ (some 9) rfl rfl Try.func47 q9_ rfl #[.string a0,.int .i64 0] rfl q0_ ?_;(with_reducible refine (bits_Uvarint.calls k a0 0 t101 t102 t103 _ A2.out).mono ?_);rintro e w' ⟨rfl,⟨nd,rfl⟩⟩;refine ⟨_,rfl,?_⟩))
   go_ret2
   exact ⟨q4_,q18_⟩
  ·rw [if_neg c4] at H
   have c4b0 : decide (4294967296 ≤ t101) = false := decide_eq_false c4
   clear c4
   simp only [Option.some.injEq,Prod.mk.injEq] at H
   obtain ⟨rfl,rfl⟩ := H
   go_enter Try.func27,Try.ntmps27
   go_wp2_with (first|((with_reducible refine gate_callee (f := 47) rfl ?_);refine goesL_ (some 9) rfl rfl Try.func47 q9_ rfl #[.string a0,.int .i64 0] rfl q0_ ?_;(with_reducible refine (bits_Uvarint.calls k a0 0 t101 t102 t103 _ A2.out).mono ?_);rintro e w' ⟨rfl,⟨nd,rfl⟩⟩;refine ⟨_,rfl,?_⟩))
   go_ret2
   exact ⟨q4_,q18_⟩
 ·rw [if_neg c3] at H
  have c3b0 : (t103 == 0) = false := beq_eq_false_iff_ne.mpr c3
  have c3b1 : (t103 != 0) = true := bne_iff_ne.mpr c3
  simp only [Option.some.injEq,Prod.mk.injEq] at H
  obtain ⟨rfl,rfl⟩ := H
  go_enter Try.func27,Try.ntmps27
  go_wp2_with (first|((with_reducible refine gate_callee (f := 47) rfl ?_);refine goesL_ (some 9) rfl rfl Try.func47 q9_ rfl #[.string a0,.int .i64 0] rfl q0_ ?_;(with_reducible refine (bits_Uvarint.calls k a0 0 t101 t102 t103 _ A2.out).mono ?_);rintro e w' ⟨rfl,⟨nd,rfl⟩⟩;refine ⟨_,rfl,?_⟩))
  go_ret2
  exact ⟨q4_,q18_⟩

end Go.Proofs.Ythcjcmgdblhhfaa.PV

/- The machine side of these statements: what each Go function computes as a plain function, and that its call computes just that. Written by a program of mine (wip/drive.py). No conditions. -/
import Derived.Test.YthcjcmgdblhhfaaPVx0
namespace Go.Proofs.Ythcjcmgdblhhfaa.PV
open Go.RowKit Go.Proofs.YthcjcmgdblhhfaaW.PrintWords Go.Proofs.YthcjcmgdblhhfaaW.PrintLast Go.Proofs.YthcjcmgdblhhfaaW.PrintMore
attribute [local go_sem] max2_int min2_int max_two min_two max_three min_three max_four min_four   -- for this text's walks alone
set_option linter.unusedVariables false
set_option linter.unusedSimpArgs false

/-! ### batonref01_Read: function 58 -/
mutual
def batonref01_Read.l0 : Nat → ByteArray → Int → Int → Int → Option (Int × Int × Int)
 | 0,_,_,_,_=>none
 | k + 1,x0,x5,x6,x7=>if x7 ≥ (x0.size : Int) then (some (0,0,8)) else (if x7 = 9 then (if 0 ≤ x7 then (if x7 < (x0.size : Int) then (batonref01_Read.j1 k x0 x5 x6 x7 (decide ((bt x0 x7) > 1))) else (none)) else (none)) else (batonref01_Read.j1 k x0 x5 x6 x7 false))
def batonref01_Read.j1 : Nat → ByteArray → Int → Int → Int → Bool → Option (Int × Int × Int)
 | 0,_,_,_,_,_=>none
 | k + 1,x0,x5,x6,x7,x21=>if x21 = true then (some (0,0,4)) else (if 0 ≤ x7 then (if x7 < (x0.size : Int) then (if (bt x0 x7) < 128 then (some (IntKind.u64.wrap (x5 + (IntKind.u64.wrap (x6 * (IntKind.u64.wrap (Int.tmod (bt x0 x7) 128))))),wrap64 (x7 + 1),0)) else (batonref01_Read.l0 k x0 (IntKind.u64.wrap (x5 + (IntKind.u64.wrap (x6 * (IntKind.u64.wrap (Int.tmod (bt x0 x7) 128)))))) (IntKind.u64.wrap (x6 * 128)) (wrap64 (x7 + 1)))) else (none)) else (none))
end
def batonref01_Read.f (k : Nat) (a0 : ByteArray) : Option (Int × Int × Int) := batonref01_Read.l0 k a0 0 1 0
theorem batonref01_Read.mono_l : ∀ k, (∀ y0 y1 y2 y3, LeO (batonref01_Read.l0 k y0 y1 y2 y3) (batonref01_Read.l0 (k + 1) y0 y1 y2 y3)) ∧ (∀ y0 y1 y2 y3 y4, LeO (batonref01_Read.j1 k y0 y1 y2 y3 y4) (batonref01_Read.j1 (k + 1) y0 y1 y2 y3 y4))
 | 0=>⟨fun _ _ _ _ r h=>by simp [batonref01_Read.l0] at h,fun _ _ _ _ _ r h=>by simp [batonref01_Read.j1] at h⟩
 | k + 1=>by
  obtain ⟨ih0,ih1⟩ := batonref01_Read.mono_l k
  refine ⟨?_,?_⟩
  ·intro y0 y1 y2 y3
   unfold batonref01_Read.l0
   repeat' first
   | (with_reducible exact ih0 _ _ _ _)
   | (with_reducible exact ih1 _ _ _ _ _)
   | (with_reducible exact LeO.refl _)
   | (with_reducible exact LeO.none _)
   | (with_reducible refine LeO.ite ?_ ?_)
   | (with_reducible refine LeO.bind ?_ (fun _=>?_))
   | exact ih0 _ _ _ _
   | exact ih1 _ _ _ _ _
   | exact LeO.none _
   | refine LeO.ite ?_ ?_
   | refine LeO.bind ?_ (fun _=>?_)
  ·intro y0 y1 y2 y3 y4
   unfold batonref01_Read.j1
   repeat' first
   | (with_reducible exact ih0 _ _ _ _)
   | (with_reducible exact ih1 _ _ _ _ _)
   | (with_reducible exact LeO.refl _)
   | (with_reducible exact LeO.none _)
   | (with_reducible refine LeO.ite ?_ ?_)
   | (with_reducible refine LeO.bind ?_ (fun _=>?_))
   | exact ih0 _ _ _ _
   | exact ih1 _ _ _ _ _
   | exact LeO.none _
   | refine LeO.ite ?_ ?_
   | refine LeO.bind ?_ (fun _=>?_)
theorem batonref01_Read.mono : ∀ a0 k, LeO (batonref01_Read.f k a0) (batonref01_Read.f (k + 1) a0) := by
 intro a0 k
 obtain ⟨ih0,ih1⟩ := batonref01_Read.mono_l k
 unfold batonref01_Read.f
 repeat' first
   | (with_reducible exact ih0 _ _ _ _)
   | (with_reducible exact ih1 _ _ _ _ _)
   | (with_reducible exact LeO.refl _)
   | (with_reducible exact LeO.none _)
   | (with_reducible refine LeO.ite ?_ ?_)
   | (with_reducible refine LeO.bind ?_ (fun _=>?_))
   | exact ih0 _ _ _ _
   | exact ih1 _ _ _ _ _
   | exact LeO.none _
   | refine LeO.ite ?_ ?_
   | refine LeO.bind ?_ (fun _=>?_)
set_option maxHeartbeats 8000000 in
set_option maxRecDepth 100000 in
theorem batonref01_Read.calls (k : Nat) (a0 : ByteArray) (r1 : Int) (r2 : Int) (r3 : Int) (w : World) (h : batonref01_Read.f k a0 = some (r1, r2, r3)) :
  Calls Try.prog 58 #[.string a0] w fun e w'=>e = .returned (.tuple #[.int .u64 r1,.int .i64 r2,.int .i64 r3]) ∧ Drawn0 w w' := by
 have H : (batonref01_Read.l0 k a0 0 1 0) = some (r1,r2,r3) := h
 clear h
 have H' := Aside0.mk H
 clear H
 go_enter Try.func58,Try.ntmps58
 go_wp2
 go_loopg [5,6,7] k (fun kq v5 v6 v7 w'=>∃ (x5_1 : Int) (x6_1 : Int) (x7_1 : Int),v5 = .int .u64 x5_1 ∧ v6 = .int .u64 x6_1 ∧ v7 = .int .i64 x7_1 ∧ Aside0 (batonref01_Read.l0 kq a0 x5_1 x6_1 x7_1 = some (r1,r2,r3)) ∧ Aside0 (kq ≤ k) ∧ Drawn0 w w')
 case atStart=>exact ⟨(0),(1),(0),q4_,q4_,q4_,H',⟨Nat.le_refl _⟩,q18_⟩
 case round =>
  clear H'
  obtain ⟨x5_1,x6_1,x7_1,rfl,rfl,rfl,HA,HK1,⟨m1,rfl⟩⟩ := hrel
  cases gk with
  | zero=>exact absurd HA.out (by simp [batonref01_Read.l0])
  | succ k1 =>
   have H := HA.out
   clear HA
   simp only [batonref01_Read.l0] at H
   by_cases c2 : x7_1 ≥ (a0.size : Int)
   ·rw [if_pos c2] at H
    have c2b0 : decide ((a0.size : Int) ≤ x7_1) = true := decide_eq_true c2
    clear c2
    simp only [Option.some.injEq,Prod.mk.injEq] at H
    obtain ⟨rfl,rfl,rfl⟩ := H
    go_wp2
    go_ret3
    exact ⟨q4_,q18_⟩
   ·rw [if_neg c2] at H
    have c2b0 : decide ((a0.size : Int) ≤ x7_1) = false := decide_eq_false c2
    clear c2
    have HC3 := Aside0.mk H
    clear H
    go_upto_region 6 with (fail)
    go_cut [21] (fun v21 wc=>∃ (kq : Nat) (x21_2 : Bool),v21 = .bool x21_2 ∧ Aside0 (batonref01_Read.j1 kq a0 x5_1 x6_1 x7_1 x21_2 = some (r1,r2,r3)) ∧ Aside0 (kq ≤ k1) ∧ Drawn0 w wc)
    case first =>
     have H := HC3.out
     clear HC3
     by_cases c4 : x7_1 = 9
     ·rw [if_pos c4] at H
      have c4b0 : (x7_1 == 9) = true := beq_iff_eq.mpr c4
      have c4b1 : (x7_1 != 9) = false := bne_eq_false_iff_eq.mpr c4
      clear c4
      (first|rw [c4b0]|(simp only [i64_w,i32_w];rw [c4b0])|skip)
      by_cases c5 : 0 ≤ x7_1
      ·rw [if_pos c5] at H
       have c5b0 : decide (0 ≤ x7_1) = true := decide_eq_true c5
       clear c5
       by_cases c6 : x7_1 < (a0.size : Int)
       ·rw [if_pos c6] at H
        have c6b0 : decide (x7_1 < (a0.size : Int)) = true := decide_eq_true c6
        clear c6
        have H' := Aside0.mk H
        clear H
        have p7 : 0 ≤ (x7_1 : Int) := of_decide_eq_true q3_
        have q7 : x7_1 < (a0.size : Int) := of_decide_eq_true q3_
        have hx7 := bt_at a0 x7_1
        replace p7 := eq_true p7
        replace q7 := eq_true q7
        go_wp2
        go_meet
        case rel=>exact ⟨_,(decide ((bt a0 x7_1) > 1)),q4_,H',⟨q71_⟩,q18_⟩
       ·rw [if_neg c6] at H
        exact absurd H (by simp)
      ·rw [if_neg c5] at H
       exact absurd H (by simp)
     ·rw [if_neg c4] at H
      have c4b0 : (x7_1 == 9) = false := beq_eq_false_iff_ne.mpr c4
      have c4b1 : (x7_1 != 9) = true := bne_iff_ne.mpr c4
      (first|rw [c4b0]|(simp only [i64_w,i32_w];rw [c4b0])|skip)
      have H' := Aside0.mk H
      clear H
      go_wp2
      go_meet
      case rel=>exact ⟨_,(false),q4_,H',⟨q71_⟩,q18_⟩
    case rest =>
     clear HC3
     try clear c2
     try clear c2b0
     try clear p2
     try clear c4
     try clear c4b0
     try clear c4b1
     try clear c5
     try clear c5b0
     try clear c6
     try clear c6b0
     try clear p7
     try clear q7
     try clear hx7
     try clear p7
     try clear q7
     obtain ⟨kq,x21_2,rfl,HA,HJ2,⟨mc2,rfl⟩⟩ := hcut
     cases kq with
     | zero=>exact absurd HA.out (by simp [batonref01_Read.j1])
     | succ kj2 =>
      have H := HA.out
      clear HA
      simp only [batonref01_Read.j1] at H
      by_cases c8 : x21_2 = true
      ·subst c8
       have H1 : (some (0,0,4)) = some (r1,r2,r3) := by rw [if_pos rfl] at H;exact H
       clear H
       have H := H1
       clear H1
       simp only [Option.some.injEq,Prod.mk.injEq] at H
       obtain ⟨rfl,rfl,rfl⟩ := H
       go_wp2
       go_ret3
       exact ⟨q4_,q18_⟩
      ·replace c8 := Bool.eq_false_iff.mpr c8
       subst c8
       have H1 : (if 0 ≤ x7_1 then (if x7_1 < (a0.size : Int) then (if (bt a0 x7_1) < 128 then (some (IntKind.u64.wrap (x5_1 + (IntKind.u64.wrap (x6_1 * (IntKind.u64.wrap (Int.tmod (bt a0 x7_1) 128))))),wrap64 (x7_1 + 1),0)) else (batonref01_Read.l0 kj2 a0 (IntKind.u64.wrap (x5_1 + (IntKind.u64.wrap (x6_1 * (IntKind.u64.wrap (Int.tmod (bt a0 x7_1) 128)))))) (IntKind.u64.wrap (x6_1 * 128)) (wrap64 (x7_1 + 1)))) else (none)) else (none)) = some (r1,r2,r3) := by rw [if_neg (show ¬ (false = true) by decide)] at H;exact H
       clear H
       have H := H1
       clear H1
       by_cases c9 : 0 ≤ x7_1
       ·rw [if_pos c9] at H
        have c9b0 : decide (0 ≤ x7_1) = true := decide_eq_true c9
        clear c9
        by_cases c10 : x7_1 < (a0.size : Int)
        ·rw [if_pos c10] at H
         have c10b0 : decide (x7_1 < (a0.size : Int)) = true := decide_eq_true c10
         clear c10
         by_cases c13 : (bt a0 x7_1) < 128
         ·rw [if_pos c13] at H
          have c13b0 : decide ((bt a0 x7_1) < 128) = true := decide_eq_true c13
          clear c13
          simp only [Option.some.injEq,Prod.mk.injEq] at H
          obtain ⟨rfl,rfl,rfl⟩ := H
          have p11 : 0 ≤ (x7_1 : Int) := of_decide_eq_true q3_
          have q11 : x7_1 < (a0.size : Int) := of_decide_eq_true q3_
          have hx11 := bt_at a0 x7_1
          replace p11 := eq_true p11
          replace q11 := eq_true q11
          have p12 : 0 ≤ (x7_1 : Int) := of_decide_eq_true q3_
          have q12 : x7_1 < (a0.size : Int) := of_decide_eq_true q3_
          have hx12 := bt_at a0 x7_1
          replace p12 := eq_true p12
          replace q12 := eq_true q12
          go_wp2
          go_ret3
          exact ⟨q4_,q18_⟩
         ·rw [if_neg c13] at H
          have c13b0 : decide ((bt a0 x7_1) < 128) = false := decide_eq_false c13
          clear c13
          have H' := Aside0.mk H
          clear H
          have p11 : 0 ≤ (x7_1 : Int) := of_decide_eq_true q3_
          have q11 : x7_1 < (a0.size : Int) := of_decide_eq_true q3_
          have hx11 := bt_at a0 x7_1
          replace p11 := eq_true p11
          replace q11 := eq_true q11
          have p12 : 0 ≤ (x7_1 : Int) := of_decide_eq_true q3_
          have q12 : x7_1 < (a0.size : Int) := of_decide_eq_true q3_
          have hx12 := bt_at a0 x7_1
          replace p12 := eq_true p12
          replace q12 := eq_true q12
          go_wp2
          go_roundg kj2
          case measure=>have := HK1.out;have := HJ2.out;omega
          case rel=>exact ⟨(IntKind.u64.wrap (x5_1 + (IntKind.u64.wrap (x6_1 * (IntKind.u64.wrap (Int.tmod (bt a0 x7_1) 128)))))),(IntKind.u64.wrap (x6_1 * 128)),(wrap64 (x7_1 + 1)),q4_,q4_,q4_,H',⟨by have := HK1.out;have := HJ2.out;omega⟩,q18_⟩
        ·rw [if_neg c10] at H
         exact absurd H (by simp)
       ·rw [if_neg c9] at H
        exact absurd H (by simp)

/-! ### batonref01_Uvarint: function 48 -/
def batonref01_Uvarint.j0 : Nat → ByteArray → Int → Bool → Option (Int × Int × Int)
 | 0,_,_,_=>none
 | k + 1,x0,x1,x17=>if x17 = true then (some (0,0,1)) else (if 0 ≤ x1 then (if x1 ≤ (x0.size : Int) then ((batonref01_Read.f k (x0.extract (x1 : Int).toNat x0.size)).bind fun bt479=>(if bt479.2.2 = 0 then (some (bt479.1,wrap64 (x1 + bt479.2.1),0)) else (some (0,0,bt479.2.2)))) else (none)) else (none))
def batonref01_Uvarint.f (k : Nat) (a0 : ByteArray) (a1 : Int) : Option (Int × Int × Int) := if a1 < 0 then (batonref01_Uvarint.j0 k a0 a1 true) else (batonref01_Uvarint.j0 k a0 a1 (decide (a1 > (a0.size : Int))))
theorem batonref01_Uvarint.mono_l : ∀ k, (∀ y0 y1 y2, LeO (batonref01_Uvarint.j0 k y0 y1 y2) (batonref01_Uvarint.j0 (k + 1) y0 y1 y2))
 | 0=>fun _ _ _ r h=>by simp [batonref01_Uvarint.j0] at h
 | k + 1=>by
  have ih0 := batonref01_Uvarint.mono_l k
  ·intro y0 y1 y2
   unfold batonref01_Uvarint.j0
   repeat' first
   | (with_reducible exact ih0 _ _ _)
   | (with_reducible exact batonref01_Read.mono _ _)
   | (with_reducible exact LeO.refl _)
   | (with_reducible exact LeO.none _)
   | (with_reducible refine LeO.ite ?_ ?_)
   | (with_reducible refine LeO.bind ?_ (fun _=>?_))
   | exact ih0 _ _ _
   | exact batonref01_Read.mono _ _
   | exact LeO.none _
   | refine LeO.ite ?_ ?_
   | refine LeO.bind ?_ (fun _=>?_)
theorem batonref01_Uvarint.mono : ∀ a0 a1 k, LeO (batonref01_Uvarint.f k a0 a1) (batonref01_Uvarint.f (k + 1) a0 a1) := by
 intro a0 a1 k
 have ih0 := batonref01_Uvarint.mono_l k
 unfold batonref01_Uvarint.f
 repeat' first
   | (with_reducible exact ih0 _ _ _)
   | (with_reducible exact batonref01_Read.mono _ _)
   | (with_reducible exact LeO.refl _)
   | (with_reducible exact LeO.none _)
   | (with_reducible refine LeO.ite ?_ ?_)
   | (with_reducible refine LeO.bind ?_ (fun _=>?_))
   | exact ih0 _ _ _
   | exact batonref01_Read.mono _ _
   | exact LeO.none _
   | refine LeO.ite ?_ ?_
   | refine LeO.bind ?_ (fun _=>?_)
set_option maxHeartbeats 8000000 in
set_option maxRecDepth 100000 in
theorem batonref01_Uvarint.calls (k : Nat) (a0 : ByteArray) (a1 : Int) (r1 : Int) (r2 : Int) (r3 : Int) (w : World) (h : batonref01_Uvarint.f k a0 a1 = some (r1, r2, r3)) :
  Calls Try.prog 48 #[.string a0,.int .i64 a1] w fun e w'=>e = .returned (.tuple #[.int .u64 r1,.int .i64 r2,.int .i64 r3]) ∧ Drawn0 w w' := by
 have H : (if a1 < 0 then (batonref01_Uvarint.j0 k a0 a1 true) else (batonref01_Uvarint.j0 k a0 a1 (decide (a1 > (a0.size : Int))))) = some (r1,r2,r3) := h
 clear h
 have HC3 := Aside0.mk H
 clear H
 go_enter Try.func48,Try.ntmps48
 go_upto_region 1 with (fail)
 go_cut [17] (fun v17 wc=>∃ (kq : Nat) (x17_2 : Bool),v17 = .bool x17_2 ∧ Aside0 (batonref01_Uvarint.j0 kq a0 a1 x17_2 = some (r1,r2,r3)) ∧ Aside0 (kq ≤ k) ∧ Drawn0 w wc)
 case first =>
  have H := HC3.out
  clear HC3
  by_cases c4 : a1 < 0
  ·rw [if_pos c4] at H
   have c4b0 : decide (a1 < 0) = true := decide_eq_true c4
   clear c4
   (first|rw [c4b0]|(simp only [i64_w,i32_w];rw [c4b0])|skip)
   have H' := Aside0.mk H
   clear H
   go_wp2
   go_meet
   case rel=>exact ⟨_,(true),q4_,H',⟨q50_⟩,q18_⟩
  ·rw [if_neg c4] at H
   have c4b0 : decide (a1 < 0) = false := decide_eq_false c4
   clear c4
   (first|rw [c4b0]|(simp only [i64_w,i32_w];rw [c4b0])|skip)
   have H' := Aside0.mk H
   clear H
   go_wp2
   go_meet
   case rel=>exact ⟨_,(decide (a1 > (a0.size : Int))),q4_,H',⟨q50_⟩,q18_⟩
 case rest =>
  clear HC3
  try clear p2
  try clear c4
  try clear c4b0
  obtain ⟨kq,x17_2,rfl,HA,HJ2,⟨mc2,rfl⟩⟩ := hcut
  cases kq with
  | zero=>exact absurd HA.out (by simp [batonref01_Uvarint.j0])
  | succ kj2 =>
   have H := HA.out
   clear HA
   simp only [batonref01_Uvarint.j0] at H
   by_cases c5 : x17_2 = true
   ·subst c5
    have H1 : (some (0,0,1)) = some (r1,r2,r3) := by rw [if_pos rfl] at H;exact H
    clear H
    have H := H1
    clear H1
    simp only [Option.some.injEq,Prod.mk.injEq] at H
    obtain ⟨rfl,rfl,rfl⟩ := H
    go_wp2
    go_ret3
    exact ⟨q4_,q18_⟩
   ·replace c5 := Bool.eq_false_iff.mpr c5
    subst c5
    have H1 : (if 0 ≤ a1 then (if a1 ≤ (a0.size : Int) then ((batonref01_Read.f kj2 (a0.extract (a1 : Int).toNat a0.size)).bind fun bt479=>(if bt479.2.2 = 0 then (some (bt479.1,wrap64 (a1 + bt479.2.1),0)) else (some (0,0,bt479.2.2)))) else (none)) else (none)) = some (r1,r2,r3) := by rw [if_neg (show ¬ (false = true) by decide)] at H;exact H
    clear H
    have H := H1
    clear H1
    by_cases c6 : 0 ≤ a1
    ·rw [if_pos c6] at H
     have c6b0 := eq_true c6
     have c6b1 : decide (0 ≤ a1) = true := decide_eq_true c6
     clear c6
     by_cases c7 : a1 ≤ (a0.size : Int)
     ·rw [if_pos c7] at H
      have c7b0 := eq_true c7
      have c7b1 : decide (a1 ≤ (a0.size : Int)) = true := decide_eq_true c7
      clear c7
      replace H := Option.bind_eq_some_iff.mp H
      obtain ⟨⟨t479,t480,t481⟩,A80,H⟩ := H
      replace H : (if t481 = 0 then (some (t479,wrap64 (a1 + t480),0)) else (some (0,0,t481))) = some (r1,r2,r3) := H
      have A8 := Aside0.mk A80
      clear A80
      by_cases c9 : t481 = 0
      ·rw [if_pos c9] at H
       have c9b0 : (t481 == 0) = true := beq_iff_eq.mpr c9
       have c9b1 : (t481 != 0) = false := bne_eq_false_iff_eq.mpr c9
       clear c9
       simp only [Option.some.injEq,Prod.mk.injEq] at H
       obtain ⟨rfl,rfl,rfl⟩ := H
       go_wp2_with (first|((with_reducible refine gate_callee (f := 58) rfl ?_);refine goesL_ (some 22) rfl rfl Try.func58 q9_ rfl #[.string (a0.extract (a1 : Int).toNat a0.size)] rfl q0_ ?_;(with_reducible refine (batonref01_Read.calls kj2 (a0.extract (a1 : Int).toNat a0.size) t479 t480 t481 _ A8.out).mono ?_);rintro e w' ⟨rfl,⟨nd,rfl⟩⟩;refine ⟨_,rfl,?_⟩))
       go_ret3
       exact ⟨q4_,q18_⟩
      ·rw [if_neg c9] at H
       have c9b0 : (t481 == 0) = false := beq_eq_false_iff_ne.mpr c9
       have c9b1 : (t481 != 0) = true := bne_iff_ne.mpr c9
       simp only [Option.some.injEq,Prod.mk.injEq] at H
       obtain ⟨rfl,rfl,rfl⟩ := H
       go_wp2_with (first|((with_reducible refine gate_callee (f := 58) rfl ?_);refine goesL_ (some 22) rfl rfl Try.func58 q9_ rfl #[.string (a0.extract (a1 : Int).toNat a0.size)] rfl q0_ ?_;(with_reducible refine (batonref01_Read.calls kj2 (a0.extract (a1 : Int).toNat a0.size) t479 t480 t481 _ A8.out).mono ?_);rintro e w' ⟨rfl,⟨nd,rfl⟩⟩;refine ⟨_,rfl,?_⟩))
       go_ret3
       exact ⟨q4_,q18_⟩
     ·rw [if_neg c7] at H
      exact absurd H (by simp)
    ·rw [if_neg c6] at H
     exact absurd H (by simp)

/-! ### batonref03_Size: function 28 -/
def batonref03_Size.f (k : Nat) (a0 : ByteArray) : Option (Int × Int) := (batonref01_Uvarint.f k a0 0).bind fun bt482 => (if bt482.2.2 = 0 then (if bt482.1 ≥ 4294967296 then (some (0, 4)) else (some (bt482.1, 0))) else (some (0, bt482.2.2)))
theorem batonref03_Size.mono : ∀ a0 k, LeO (batonref03_Size.f k a0) (batonref03_Size.f (k + 1) a0) := by
 intro a0 k
 unfold batonref03_Size.f
 repeat' first
   | (with_reducible exact batonref01_Uvarint.mono _ _ _)
   | (with_reducible exact LeO.refl _)
   | (with_reducible exact LeO.none _)
   | (with_reducible refine LeO.ite ?_ ?_)
   | (with_reducible refine LeO.bind ?_ (fun _=>?_))
   | exact batonref01_Uvarint.mono _ _ _
   | exact LeO.none _
   | refine LeO.ite ?_ ?_
   | refine LeO.bind ?_ (fun _=>?_)
set_option maxHeartbeats 8000000 in
set_option maxRecDepth 100000 in
theorem batonref03_Size.calls (k : Nat) (a0 : ByteArray) (r1 : Int) (r2 : Int) (w : World) (h : batonref03_Size.f k a0 = some (r1, r2)) :
  Calls Try.prog 28 #[.string a0] w fun e w'=>e = .returned (.tuple #[.int .u64 r1,.int .i64 r2]) ∧ Drawn0 w w' := by
 have H : ((batonref01_Uvarint.f k a0 0).bind fun bt482=>(if bt482.2.2 = 0 then (if bt482.1 ≥ 4294967296 then (some (0,4)) else (some (bt482.1,0))) else (some (0,bt482.2.2)))) = some (r1,r2) := h
 clear h
 replace H := Option.bind_eq_some_iff.mp H
 obtain ⟨⟨t482,t483,t484⟩,A20,H⟩ := H
 replace H : (if t484 = 0 then (if t482 ≥ 4294967296 then (some (0,4)) else (some (t482,0))) else (some (0,t484))) = some (r1,r2) := H
 have A2 := Aside0.mk A20
 clear A20
 by_cases c3 : t484 = 0
 ·rw [if_pos c3] at H
  have c3b0 : (t484 == 0) = true := beq_iff_eq.mpr c3
  have c3b1 : (t484 != 0) = false := bne_eq_false_iff_eq.mpr c3
  clear c3
  by_cases c4 : t482 ≥ 4294967296
  ·rw [if_pos c4] at H
   have c4b0 : decide (4294967296 ≤ t482) = true := decide_eq_true c4
   clear c4
   simp only [Option.some.injEq,Prod.mk.injEq] at H
   obtain ⟨rfl,rfl⟩ := H
   go_enter Try.func28,Try.ntmps28
   go_wp2_with (first|((with_reducible refine gate_callee (f := 48) rfl ?_);refine goesL_ (some 9) rfl rfl Try.func48 q9_ rfl #[.string a0,.int .i64 0] rfl q0_ ?_;(with_reducible refine (batonref01_Uvarint.calls k a0 0 t482 t483 t484 _ A2.out).mono ?_);rintro e w' ⟨rfl,⟨nd,rfl⟩⟩;refine ⟨_,rfl,?_⟩))
   go_ret2
   exact ⟨q4_,q18_⟩
  ·rw [if_neg c4] at H
   have c4b0 : decide (4294967296 ≤ t482) = false := decide_eq_false c4
   clear c4
   simp only [Option.some.injEq,Prod.mk.injEq] at H
   obtain ⟨rfl,rfl⟩ := H
   go_enter Try.func28,Try.ntmps28
   go_wp2_with (first|((with_reducible refine gate_callee (f := 48) rfl ?_);refine goesL_ (some 9) rfl rfl Try.func48 q9_ rfl #[.string a0,.int .i64 0] rfl q0_ ?_;(with_reducible refine (batonref01_Uvarint.calls k a0 0 t482 t483 t484 _ A2.out).mono ?_);rintro e w' ⟨rfl,⟨nd,rfl⟩⟩;refine ⟨_,rfl,?_⟩))
   go_ret2
   exact ⟨q4_,q18_⟩
 ·rw [if_neg c3] at H
  have c3b0 : (t484 == 0) = false := beq_eq_false_iff_ne.mpr c3
  have c3b1 : (t484 != 0) = true := bne_iff_ne.mpr c3
  simp only [Option.some.injEq,Prod.mk.injEq] at H
  obtain ⟨rfl,rfl⟩ := H
  go_enter Try.func28,Try.ntmps28
  go_wp2_with (first|((with_reducible refine gate_callee (f := 48) rfl ?_);refine goesL_ (some 9) rfl rfl Try.func48 q9_ rfl #[.string a0,.int .i64 0] rfl q0_ ?_;(with_reducible refine (batonref01_Uvarint.calls k a0 0 t482 t483 t484 _ A2.out).mono ?_);rintro e w' ⟨rfl,⟨nd,rfl⟩⟩;refine ⟨_,rfl,?_⟩))
  go_ret2
  exact ⟨q4_,q18_⟩

end Go.Proofs.Ythcjcmgdblhhfaa.PV

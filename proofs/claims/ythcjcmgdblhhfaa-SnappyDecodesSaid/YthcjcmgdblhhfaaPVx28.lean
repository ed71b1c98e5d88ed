/- The machine side of these statements: what each Go function computes as a plain function, and that its call computes just that. Written by a program of mine (wip/drive.py). No conditions. -/
import Derived.Test.YthcjcmgdblhhfaaPVx0
namespace Go.Proofs.Ythcjcmgdblhhfaa.PV
open Go.RowKit Go.Proofs.YthcjcmgdblhhfaaW.PrintWords Go.Proofs.YthcjcmgdblhhfaaW.PrintLast Go.Proofs.YthcjcmgdblhhfaaW.PrintMore
attribute [local go_sem] max2_int min2_int max_two min_two max_three min_three max_four min_four   -- for this text's walks alone
set_option linter.unusedVariables false
set_option linter.unusedSimpArgs false

/-! ### batonlaw03_same: function 23 -/
def batonlaw03_same.l0 : Nat → List (S35) → List (S72) → Int → Option (Bool)
 | 0,_,_,_=>none
 | k + 1,x0,x1,x5=>if x5 < (x0.length : Int) then (if 0 ≤ x5 then (if x5 < (x1.length : Int) then (if (((rd_T35 x0 x5).f0) != ((rd_T72 x1 x5).f0)) = true then (some false) else (if ((rd_T35 x0 x5).f1).toList = ((rd_T72 x1 x5).f1).toList then (if ((rd_T35 x0 x5).f2) = ((rd_T72 x1 x5).f2) then (if ((rd_T35 x0 x5).f3) = ((rd_T72 x1 x5).f3) then (batonlaw03_same.l0 k x0 x1 (wrap64 (x5 + 1))) else (some false)) else (some false)) else (some false))) else (none)) else (none)) else (some true)
def batonlaw03_same.f (k : Nat) (l0 : List (S35)) (l1 : List (S72)) : Option (Bool) := if (l0.length : Int) = (l1.length : Int) then (batonlaw03_same.l0 k l0 l1 0) else (some false)
theorem batonlaw03_same.mono_l : ∀ k, (∀ y0 y1 y2, LeO (batonlaw03_same.l0 k y0 y1 y2) (batonlaw03_same.l0 (k + 1) y0 y1 y2))
 | 0=>fun _ _ _ r h=>by simp [batonlaw03_same.l0] at h
 | k + 1=>by
  have ih0 := batonlaw03_same.mono_l k
  ·intro y0 y1 y2
   unfold batonlaw03_same.l0
   repeat' first
   | (with_reducible exact ih0 _ _ _)
   | (with_reducible exact LeO.refl _)
   | (with_reducible exact LeO.none _)
   | (with_reducible refine LeO.ite ?_ ?_)
   | (with_reducible refine LeO.bind ?_ (fun _=>?_))
   | exact ih0 _ _ _
   | exact LeO.none _
   | refine LeO.ite ?_ ?_
   | refine LeO.bind ?_ (fun _=>?_)
theorem batonlaw03_same.mono : ∀ a0 a1 k, LeO (batonlaw03_same.f k a0 a1) (batonlaw03_same.f (k + 1) a0 a1) := by
 intro a0 a1 k
 have ih0 := batonlaw03_same.mono_l k
 unfold batonlaw03_same.f
 repeat' first
   | (with_reducible exact ih0 _ _ _)
   | (with_reducible exact LeO.refl _)
   | (with_reducible exact LeO.none _)
   | (with_reducible refine LeO.ite ?_ ?_)
   | (with_reducible refine LeO.bind ?_ (fun _=>?_))
   | exact ih0 _ _ _
   | exact LeO.none _
   | refine LeO.ite ?_ ?_
   | refine LeO.bind ?_ (fun _=>?_)
set_option maxHeartbeats 8000000 in
set_option maxRecDepth 100000 in
theorem batonlaw03_same.calls (k : Nat) (A0 : Option Addr) (c0 : Nat) (l0 : List (S35)) (A1 : Option Addr) (c1 : Nat) (l1 : List (S72)) (r : Bool) (w : World) (hr0 : Kd.C k35 w A0 l0.length l0) (hc0 : l0.length ≤ c0) (hr1 : Kd.C k72 w A1 l1.length l1) (hc1 : l1.length ≤ c1) (h : batonlaw03_same.f k l0 l1 = some r) :
  Calls Try.prog 23 #[.slice A0 l0.length c0,.slice A1 l1.length c1] w fun e w'=>e = .returned (.bool r) ∧ Drawn0 w w' := by
 have HR0 := Aside0.mk hr0
 have HC0 := Aside0.mk hc0
 clear hr0 hc0
 have HR1 := Aside0.mk hr1
 have HC1 := Aside0.mk hc1
 clear hr1 hc1
 have H : (if (l0.length : Int) = (l1.length : Int) then (batonlaw03_same.l0 k l0 l1 0) else (some false)) = some r := h
 clear h
 by_cases c3 : (l0.length : Int) = (l1.length : Int)
 ·rw [if_pos c3] at H
  have c3b0 : ((l0.length : Int) == (l1.length : Int)) = true := beq_iff_eq.mpr c3
  have c3b1 : ((l0.length : Int) != (l1.length : Int)) = false := bne_eq_false_iff_eq.mpr c3
  have c3b2 : (l0.length == l1.length) = true := by first|simpa using c3|(simp at c3 ⊢;omega)
  clear c3
  have H' := Aside0.mk H
  clear H
  go_enter Try.func23,Try.ntmps23
  go_wp2
  repeat (go_quiet (fail);try go_wp2)
  go_loopg [5] k (fun kq v5 w'=>∃ (x5_1 : Int),v5 = .int .i64 x5_1 ∧ Aside0 (batonlaw03_same.l0 kq l0 l1 x5_1 = some r) ∧ Aside0 (kq ≤ k) ∧ Drawn0 w w')
  case atStart=>exact ⟨(0),q4_,H',⟨Nat.le_refl _⟩,q18_⟩
  case round =>
   clear H'
   try clear c1
   try clear c2
   try clear p2
   try clear c3
   try clear c3b0
   try clear c3b1
   try clear c3b2
   obtain ⟨x5_1,rfl,HA,HK1,⟨m1,rfl⟩⟩ := hrel
   cases gk with
   | zero=>exact absurd HA.out (by simp [batonlaw03_same.l0])
   | succ k1 =>
    have H := HA.out
    clear HA
    simp only [batonlaw03_same.l0] at H
    by_cases c4 : x5_1 < (l0.length : Int)
    ·rw [if_pos c4] at H
     have c4b0 : decide (x5_1 < (l0.length : Int)) = true := decide_eq_true c4
     clear c4
     by_cases c5 : 0 ≤ x5_1
     ·rw [if_pos c5] at H
      have c5b0 : decide (0 ≤ x5_1) = true := decide_eq_true c5
      clear c5
      by_cases c6 : x5_1 < (l1.length : Int)
      ·rw [if_pos c6] at H
       have c6b0 : decide (x5_1 < (l1.length : Int)) = true := decide_eq_true c6
       clear c6
       by_cases c7 : (((rd_T35 l0 x5_1).f0) != ((rd_T72 l1 x5_1).f0)) = true
       ·rw [if_pos c7] at H
        have c7b0 : (((rd_T35 l0 x5_1).f0) != ((rd_T72 l1 x5_1).f0)) = true := c7
        (try (have c7b1 : decide (((rd_T35 l0 x5_1).f0) = ((rd_T72 l1 x5_1).f0)) = false := by simpa using c7))
        (try (have c7b2 : (((rd_T35 l0 x5_1).f0) == ((rd_T72 l1 x5_1).f0)) = false := by simpa using c7))
        (try (have c7b3 : ¬ (((rd_T35 l0 x5_1).f0) = ((rd_T72 l1 x5_1).f0)) := by simpa using c7))
        clear c7
        obtain rfl := Option.some.inj H
        have p378 : 0 ≤ (x5_1 : Int) := of_decide_eq_true q3_
        have q378 : x5_1 < (l0.length : Int) := of_decide_eq_true q3_
        obtain ⟨ad378,e378,hx378_0,hx378_1,hx378_2,hx378_3⟩ := at_T35 HR0.out x5_1 p378 q378
        cases e378
        replace p378 := eq_true p378
        replace q378 := eq_true q378
        have p379 : 0 ≤ (x5_1 : Int) := of_decide_eq_true q3_
        have q379 : x5_1 < (l1.length : Int) := of_decide_eq_true q3_
        obtain ⟨ad379,e379,hx379_0,hx379_1,hx379_2,hx379_3⟩ := at_T72 HR1.out x5_1 p379 q379
        cases e379
        replace p379 := eq_true p379
        replace q379 := eq_true q379
        go_wp2
        repeat (go_quiet (fail);try go_wp2)
        go_ret
        exact ⟨q4_,q18_⟩
       ·rw [if_neg c7] at H
        have c7b0 : (((rd_T35 l0 x5_1).f0) != ((rd_T72 l1 x5_1).f0)) = false := by simpa using c7
        (try (have c7b1 : decide (((rd_T35 l0 x5_1).f0) = ((rd_T72 l1 x5_1).f0)) = true := by simpa using c7))
        (try (have c7b2 : (((rd_T35 l0 x5_1).f0) == ((rd_T72 l1 x5_1).f0)) = true := by simpa using c7))
        clear c7
        by_cases c8 : ((rd_T35 l0 x5_1).f1).toList = ((rd_T72 l1 x5_1).f1).toList
        ·rw [if_pos c8] at H
         have c8b0 : (((rd_T35 l0 x5_1).f1).toList == ((rd_T72 l1 x5_1).f1).toList) = true := beq_iff_eq.mpr c8
         have c8b1 : (((rd_T35 l0 x5_1).f1).toList != ((rd_T72 l1 x5_1).f1).toList) = false := bne_eq_false_iff_eq.mpr c8
         clear c8
         by_cases c9 : ((rd_T35 l0 x5_1).f2) = ((rd_T72 l1 x5_1).f2)
         ·rw [if_pos c9] at H
          have c9b0 : (((rd_T35 l0 x5_1).f2) == ((rd_T72 l1 x5_1).f2)) = true := beq_iff_eq.mpr c9
          have c9b1 : (((rd_T35 l0 x5_1).f2) != ((rd_T72 l1 x5_1).f2)) = false := bne_eq_false_iff_eq.mpr c9
          clear c9
          by_cases c10 : ((rd_T35 l0 x5_1).f3) = ((rd_T72 l1 x5_1).f3)
          ·rw [if_pos c10] at H
           have c10b0 : (((rd_T35 l0 x5_1).f3) == ((rd_T72 l1 x5_1).f3)) = true := beq_iff_eq.mpr c10
           have c10b1 : (((rd_T35 l0 x5_1).f3) != ((rd_T72 l1 x5_1).f3)) = false := bne_eq_false_iff_eq.mpr c10
           clear c10
           have H' := Aside0.mk H
           clear H
           have p378 : 0 ≤ (x5_1 : Int) := of_decide_eq_true q3_
           have q378 : x5_1 < (l0.length : Int) := of_decide_eq_true q3_
           obtain ⟨ad378,e378,hx378_0,hx378_1,hx378_2,hx378_3⟩ := at_T35 HR0.out x5_1 p378 q378
           cases e378
           replace p378 := eq_true p378
           replace q378 := eq_true q378
           have p379 : 0 ≤ (x5_1 : Int) := of_decide_eq_true q3_
           have q379 : x5_1 < (l1.length : Int) := of_decide_eq_true q3_
           obtain ⟨ad379,e379,hx379_0,hx379_1,hx379_2,hx379_3⟩ := at_T72 HR1.out x5_1 p379 q379
           cases e379
           replace p379 := eq_true p379
           replace q379 := eq_true q379
           have p380 : 0 ≤ (x5_1 : Int) := of_decide_eq_true q3_
           have q380 : x5_1 < (l0.length : Int) := of_decide_eq_true q3_
           obtain ⟨ad380,e380,hx380_0,hx380_1,hx380_2,hx380_3⟩ := at_T35 HR0.out x5_1 p380 q380
           obtain rfl : ad378 = ad380 := (by injection e380)
           replace p380 := eq_true p380
           replace q380 := eq_true q380
           have p381 : 0 ≤ (x5_1 : Int) := of_decide_eq_true q3_
           have q381 : x5_1 < (l1.length : Int) := of_decide_eq_true q3_
           obtain ⟨ad381,e381,hx381_0,hx381_1,hx381_2,hx381_3⟩ := at_T72 HR1.out x5_1 p381 q381
           obtain rfl : ad379 = ad381 := (by injection e381)
           replace p381 := eq_true p381
           replace q381 := eq_true q381
           have p382 : 0 ≤ (x5_1 : Int) := of_decide_eq_true q3_
           have q382 : x5_1 < (l0.length : Int) := of_decide_eq_true q3_
           obtain ⟨ad382,e382,hx382_0,hx382_1,hx382_2,hx382_3⟩ := at_T35 HR0.out x5_1 p382 q382
           obtain rfl : ad378 = ad382 := (by injection e382)
           replace p382 := eq_true p382
           replace q382 := eq_true q382
           have p383 : 0 ≤ (x5_1 : Int) := of_decide_eq_true q3_
           have q383 : x5_1 < (l1.length : Int) := of_decide_eq_true q3_
           obtain ⟨ad383,e383,hx383_0,hx383_1,hx383_2,hx383_3⟩ := at_T72 HR1.out x5_1 p383 q383
           obtain rfl : ad379 = ad383 := (by injection e383)
           replace p383 := eq_true p383
           replace q383 := eq_true q383
           have p384 : 0 ≤ (x5_1 : Int) := of_decide_eq_true q3_
           have q384 : x5_1 < (l0.length : Int) := of_decide_eq_true q3_
           obtain ⟨ad384,e384,hx384_0,hx384_1,hx384_2,hx384_3⟩ := at_T35 HR0.out x5_1 p384 q384
           obtain rfl : ad378 = ad384 := (by injection e384)
           replace p384 := eq_true p384
           replace q384 := eq_true q384
           have p385 : 0 ≤ (x5_1 : Int) := of_decide_eq_true q3_
           have q385 : x5_1 < (l1.length : Int) := of_decide_eq_true q3_
           obtain ⟨ad385,e385,hx385_0,hx385_1,hx385_2,hx385_3⟩ := at_T72 HR1.out x5_1 p385 q385
           obtain rfl : ad379 = ad385 := (by injection e385)
           replace p385 := eq_true p385
           replace q385 := eq_true q385
           go_wp2
           repeat (go_quiet (fail);try go_wp2)
           go_roundg k1
           case measure=>have := HK1.out;omega
           case rel=>exact ⟨(wrap64 (x5_1 + 1)),q4_,H',⟨q85_⟩,q18_⟩
          ·rw [if_neg c10] at H
           have c10b0 : (((rd_T35 l0 x5_1).f3) == ((rd_T72 l1 x5_1).f3)) = false := beq_eq_false_iff_ne.mpr c10
           have c10b1 : (((rd_T35 l0 x5_1).f3) != ((rd_T72 l1 x5_1).f3)) = true := bne_iff_ne.mpr c10
           obtain rfl := Option.some.inj H
           have p378 : 0 ≤ (x5_1 : Int) := of_decide_eq_true q3_
           have q378 : x5_1 < (l0.length : Int) := of_decide_eq_true q3_
           obtain ⟨ad378,e378,hx378_0,hx378_1,hx378_2,hx378_3⟩ := at_T35 HR0.out x5_1 p378 q378
           cases e378
           replace p378 := eq_true p378
           replace q378 := eq_true q378
           have p379 : 0 ≤ (x5_1 : Int) := of_decide_eq_true q3_
           have q379 : x5_1 < (l1.length : Int) := of_decide_eq_true q3_
           obtain ⟨ad379,e379,hx379_0,hx379_1,hx379_2,hx379_3⟩ := at_T72 HR1.out x5_1 p379 q379
           cases e379
           replace p379 := eq_true p379
           replace q379 := eq_true q379
           have p380 : 0 ≤ (x5_1 : Int) := of_decide_eq_true q3_
           have q380 : x5_1 < (l0.length : Int) := of_decide_eq_true q3_
           obtain ⟨ad380,e380,hx380_0,hx380_1,hx380_2,hx380_3⟩ := at_T35 HR0.out x5_1 p380 q380
           obtain rfl : ad378 = ad380 := (by injection e380)
           replace p380 := eq_true p380
           replace q380 := eq_true q380
           have p381 : 0 ≤ (x5_1 : Int) := of_decide_eq_true q3_
           have q381 : x5_1 < (l1.length : Int) := of_decide_eq_true q3_
           obtain ⟨ad381,e381,hx381_0,hx381_1,hx381_2,hx381_3⟩ := at_T72 HR1.out x5_1 p381 q381
           obtain rfl : ad379 = ad381 := (by injection e381)
           replace p381 := eq_true p381
           replace q381 := eq_true q381
           have p382 : 0 ≤ (x5_1 : Int) := of_decide_eq_true q3_
           have q382 : x5_1 < (l0.length : Int) := of_decide_eq_true q3_
           obtain ⟨ad382,e382,hx382_0,hx382_1,hx382_2,hx382_3⟩ := at_T35 HR0.out x5_1 p382 q382
           obtain rfl : ad378 = ad382 := (by injection e382)
           replace p382 := eq_true p382
           replace q382 := eq_true q382
           have p383 : 0 ≤ (x5_1 : Int) := of_decide_eq_true q3_
           have q383 : x5_1 < (l1.length : Int) := of_decide_eq_true q3_
           obtain ⟨ad383,e383,hx383_0,hx383_1,hx383_2,hx383_3⟩ := at_T72 HR1.out x5_1 p383 q383
           obtain rfl : ad379 = ad383 := (by injection e383)
           replace p383 := eq_true p383
           replace q383 := eq_true q383
           have p384 : 0 ≤ (x5_1 : Int) := of_decide_eq_true q3_
           have q384 : x5_1 < (l0.length : Int) := of_decide_eq_true q3_
           obtain ⟨ad384,e384,hx384_0,hx384_1,hx384_2,hx384_3⟩ := at_T35 HR0.out x5_1 p384 q384
           obtain rfl : ad378 = ad384 := (by injection e384)
           replace p384 := eq_true p384
           replace q384 := eq_true q384
           have p385 : 0 ≤ (x5_1 : Int) := of_decide_eq_true q3_
           have q385 : x5_1 < (l1.length : Int) := of_decide_eq_true q3_
           obtain ⟨ad385,e385,hx385_0,hx385_1,hx385_2,hx385_3⟩ := at_T72 HR1.out x5_1 p385 q385
           obtain rfl : ad379 = ad385 := (by injection e385)
           replace p385 := eq_true p385
           replace q385 := eq_true q385
           go_wp2
           repeat (go_quiet (fail);try go_wp2)
           go_ret
           exact ⟨q4_,q18_⟩
         ·rw [if_neg c9] at H
          have c9b0 : (((rd_T35 l0 x5_1).f2) == ((rd_T72 l1 x5_1).f2)) = false := beq_eq_false_iff_ne.mpr c9
          have c9b1 : (((rd_T35 l0 x5_1).f2) != ((rd_T72 l1 x5_1).f2)) = true := bne_iff_ne.mpr c9
          obtain rfl := Option.some.inj H
          have p378 : 0 ≤ (x5_1 : Int) := of_decide_eq_true q3_
          have q378 : x5_1 < (l0.length : Int) := of_decide_eq_true q3_
          obtain ⟨ad378,e378,hx378_0,hx378_1,hx378_2,hx378_3⟩ := at_T35 HR0.out x5_1 p378 q378
          cases e378
          replace p378 := eq_true p378
          replace q378 := eq_true q378
          have p379 : 0 ≤ (x5_1 : Int) := of_decide_eq_true q3_
          have q379 : x5_1 < (l1.length : Int) := of_decide_eq_true q3_
          obtain ⟨ad379,e379,hx379_0,hx379_1,hx379_2,hx379_3⟩ := at_T72 HR1.out x5_1 p379 q379
          cases e379
          replace p379 := eq_true p379
          replace q379 := eq_true q379
          have p380 : 0 ≤ (x5_1 : Int) := of_decide_eq_true q3_
          have q380 : x5_1 < (l0.length : Int) := of_decide_eq_true q3_
          obtain ⟨ad380,e380,hx380_0,hx380_1,hx380_2,hx380_3⟩ := at_T35 HR0.out x5_1 p380 q380
          obtain rfl : ad378 = ad380 := (by injection e380)
          replace p380 := eq_true p380
          replace q380 := eq_true q380
          have p381 : 0 ≤ (x5_1 : Int) := of_decide_eq_true q3_
          have q381 : x5_1 < (l1.length : Int) := of_decide_eq_true q3_
          obtain ⟨ad381,e381,hx381_0,hx381_1,hx381_2,hx381_3⟩ := at_T72 HR1.out x5_1 p381 q381
          obtain rfl : ad379 = ad381 := (by injection e381)
          replace p381 := eq_true p381
          replace q381 := eq_true q381
          have p382 : 0 ≤ (x5_1 : Int) := of_decide_eq_true q3_
          have q382 : x5_1 < (l0.length : Int) := of_decide_eq_true q3_
          obtain ⟨ad382,e382,hx382_0,hx382_1,hx382_2,hx382_3⟩ := at_T35 HR0.out x5_1 p382 q382
          obtain rfl : ad378 = ad382 := (by injection e382)
          replace p382 := eq_true p382
          replace q382 := eq_true q382
          have p383 : 0 ≤ (x5_1 : Int) := of_decide_eq_true q3_
          have q383 : x5_1 < (l1.length : Int) := of_decide_eq_true q3_
          obtain ⟨ad383,e383,hx383_0,hx383_1,hx383_2,hx383_3⟩ := at_T72 HR1.out x5_1 p383 q383
          obtain rfl : ad379 = ad383 := (by injection e383)
          replace p383 := eq_true p383
          replace q383 := eq_true q383
          go_wp2
          repeat (go_quiet (fail);try go_wp2)
          go_ret
          exact ⟨q4_,q18_⟩
        ·rw [if_neg c8] at H
         have c8b0 : (((rd_T35 l0 x5_1).f1).toList == ((rd_T72 l1 x5_1).f1).toList) = false := beq_eq_false_iff_ne.mpr c8
         have c8b1 : (((rd_T35 l0 x5_1).f1).toList != ((rd_T72 l1 x5_1).f1).toList) = true := bne_iff_ne.mpr c8
         obtain rfl := Option.some.inj H
         have p378 : 0 ≤ (x5_1 : Int) := of_decide_eq_true q3_
         have q378 : x5_1 < (l0.length : Int) := of_decide_eq_true q3_
         obtain ⟨ad378,e378,hx378_0,hx378_1,hx378_2,hx378_3⟩ := at_T35 HR0.out x5_1 p378 q378
         cases e378
         replace p378 := eq_true p378
         replace q378 := eq_true q378
         have p379 : 0 ≤ (x5_1 : Int) := of_decide_eq_true q3_
         have q379 : x5_1 < (l1.length : Int) := of_decide_eq_true q3_
         obtain ⟨ad379,e379,hx379_0,hx379_1,hx379_2,hx379_3⟩ := at_T72 HR1.out x5_1 p379 q379
         cases e379
         replace p379 := eq_true p379
         replace q379 := eq_true q379
         have p380 : 0 ≤ (x5_1 : Int) := of_decide_eq_true q3_
         have q380 : x5_1 < (l0.length : Int) := of_decide_eq_true q3_
         obtain ⟨ad380,e380,hx380_0,hx380_1,hx380_2,hx380_3⟩ := at_T35 HR0.out x5_1 p380 q380
         obtain rfl : ad378 = ad380 := (by injection e380)
         replace p380 := eq_true p380
         replace q380 := eq_true q380
         have p381 : 0 ≤ (x5_1 : Int) := of_decide_eq_true q3_
         have q381 : x5_1 < (l1.length : Int) := of_decide_eq_true q3_
         obtain ⟨ad381,e381,hx381_0,hx381_1,hx381_2,hx381_3⟩ := at_T72 HR1.out x5_1 p381 q381
         obtain rfl : ad379 = ad381 := (by injection e381)
         replace p381 := eq_true p381
         replace q381 := eq_true q381
         go_wp2
         repeat (go_quiet (fail);try go_wp2)
         go_ret
         exact ⟨q4_,q18_⟩
      ·rw [if_neg c6] at H
       exact absurd H (by simp)
     ·rw [if_neg c5] at H
      exact absurd H (by simp)
    ·rw [if_neg c4] at H
     have c4b0 : decide (x5_1 < (l0.length : Int)) = false := decide_eq_false c4
     clear c4
     obtain rfl := Option.some.inj H
     go_wp2
     repeat (go_quiet (fail);try go_wp2)
     go_ret
     exact ⟨q4_,q18_⟩
 ·rw [if_neg c3] at H
  have c3b0 : ((l0.length : Int) == (l1.length : Int)) = false := beq_eq_false_iff_ne.mpr c3
  have c3b1 : ((l0.length : Int) != (l1.length : Int)) = true := bne_iff_ne.mpr c3
  have c3b2 : (l0.length == l1.length) = false := by first|simpa using c3|(simp at c3 ⊢;omega)
  obtain rfl := Option.some.inj H
  go_enter Try.func23,Try.ntmps23
  go_wp2
  repeat (go_quiet (fail);try go_wp2)
  go_ret
  exact ⟨q4_,q18_⟩

end Go.Proofs.Ythcjcmgdblhhfaa.PV

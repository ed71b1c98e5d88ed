/- The machine side of these statements: what each Go function computes as a plain function, and that its call computes just that. Written by a program of mine (wip/drive.py). No conditions. -/
import Derived.Test.YtbedpnklnamnhaaDoorPFx0
namespace Go.Proofs.YtbedpnklnamnhaaDoor.PF
open Go.RowKit Go.Proofs.YtbedpnklnamnhaaDoorW.PrintWords Go.Proofs.YtbedpnklnamnhaaDoorW.PrintLast Go.Proofs.YtbedpnklnamnhaaDoorW.PrintMore
attribute [local go_sem] max2_int min2_int max_two min_two max_three min_three max_four min_four   -- for this text's walks alone
set_option linter.unusedVariables false
set_option linter.unusedSimpArgs false

/-! ### batonref22_May: function 24 -/
def batonref22_May.l0 : Nat → List (S40) → Int → Option (Bool)
 | 0,_,_=>none
 | k + 1,x0,x3=>if x3 < (x0.length : Int) then (if 0 ≤ x3 then (if ((rd_T40 x0 x3).f0) < 0 then (some false) else (if ((rd_T40 x0 x3).f0) > 1125899906842624 then (some false) else (if x3 > 0 then (if 0 ≤ (wrap64 (x3 - 1)) then (if (wrap64 (x3 - 1)) < (x0.length : Int) then (if ((rd_T40 x0 x3).f0) ≤ ((rd_T40 x0 (wrap64 (x3 - 1))).f0) then (some false) else (batonref22_May.l0 k x0 (wrap64 (x3 + 1)))) else (none)) else (none)) else (batonref22_May.l0 k x0 (wrap64 (x3 + 1)))))) else (none)) else (some true)
def batonref22_May.f (k : Nat) (l0 : List (S40)) : Option (Bool) := batonref22_May.l0 k l0 0
theorem batonref22_May.mono_l : ∀ k, (∀ y0 y1, LeO (batonref22_May.l0 k y0 y1) (batonref22_May.l0 (k + 1) y0 y1))
 | 0=>fun _ _ r h=>by simp [batonref22_May.l0] at h
 | k + 1=>by
  have ih0 := batonref22_May.mono_l k
  ·intro y0 y1
   unfold batonref22_May.l0
   repeat' first
   | (with_reducible exact ih0 _ _)
   | (with_reducible exact LeO.refl _)
   | (with_reducible exact LeO.none _)
   | (with_reducible refine LeO.ite ?_ ?_)
   | (with_reducible refine LeO.bind ?_ (fun _=>?_))
   | exact ih0 _ _
   | exact LeO.none _
   | refine LeO.ite ?_ ?_
   | refine LeO.bind ?_ (fun _=>?_)
theorem batonref22_May.mono : ∀ a0 k, LeO (batonref22_May.f k a0) (batonref22_May.f (k + 1) a0) := by
 intro a0 k
 have ih0 := batonref22_May.mono_l k
 unfold batonref22_May.f
 repeat' first
   | (with_reducible exact ih0 _ _)
   | (with_reducible exact LeO.refl _)
   | (with_reducible exact LeO.none _)
   | (with_reducible refine LeO.ite ?_ ?_)
   | (with_reducible refine LeO.bind ?_ (fun _=>?_))
   | exact ih0 _ _
   | exact LeO.none _
   | refine LeO.ite ?_ ?_
   | refine LeO.bind ?_ (fun _=>?_)
set_option maxHeartbeats 8000000 in
set_option maxRecDepth 100000 in
theorem batonref22_May.calls (k : Nat) (A0 : Option Addr) (c0 : Nat) (l0 : List (S40)) (r : Bool) (w : World) (hr0 : Kd.C k40 w A0 l0.length l0) (hc0 : l0.length ≤ c0) (h : batonref22_May.f k l0 = some r) :
  Calls Tryd.prog 24 #[.slice A0 l0.length c0] w fun e w'=>e = .returned (.bool r) ∧ Drawn0 w w' := by
 have HR0 := Aside0.mk hr0
 have HC0 := Aside0.mk hc0
 clear hr0 hc0
 have H : (batonref22_May.l0 k l0 0) = some r := h
 clear h
 have H' := Aside0.mk H
 clear H
 go_enter Tryd.func24,Tryd.ntmps24
 go_wp2
 repeat (go_quiet (fail);try go_wp2)
 go_loopg [3] k (fun kq v3 w'=>∃ (x3_1 : Int),v3 = .int .i64 x3_1 ∧ Aside0 (batonref22_May.l0 kq l0 x3_1 = some r) ∧ Aside0 (kq ≤ k) ∧ Drawn0 w w')
 case atStart=>exact ⟨(0),q10_,H',⟨Nat.le_refl _⟩,q19_⟩
 case round =>
  clear H'
  obtain ⟨x3_1,rfl,HA,HK1,⟨m1,rfl⟩⟩ := hrel
  cases gk with
  | zero=>exact absurd HA.out (by simp [batonref22_May.l0])
  | succ k1 =>
   have H := HA.out
   clear HA
   simp only [batonref22_May.l0] at H
   by_cases c2 : x3_1 < (l0.length : Int)
   ·rw [if_pos c2] at H
    have c2b0 : decide (x3_1 < (l0.length : Int)) = true := decide_eq_true c2
    clear c2
    by_cases c3 : 0 ≤ x3_1
    ·rw [if_pos c3] at H
     have c3b0 : decide (0 ≤ x3_1) = true := decide_eq_true c3
     clear c3
     by_cases c4 : ((rd_T40 l0 x3_1).f0) < 0
     ·rw [if_pos c4] at H
      have c4b0 : decide (((rd_T40 l0 x3_1).f0) < 0) = true := decide_eq_true c4
      clear c4
      obtain rfl := Option.some.inj H
      have p198 : 0 ≤ (x3_1 : Int) := of_decide_eq_true q5_
      have q198 : x3_1 < (l0.length : Int) := of_decide_eq_true q5_
      obtain ⟨ad198,e198,hx198_0,hx198_1⟩ := at_T40 HR0.out x3_1 p198 q198
      cases e198
      replace p198 := eq_true p198
      replace q198 := eq_true q198
      go_wp2
      repeat (go_quiet (fail);try go_wp2)
      go_ret
      exact ⟨q10_,q19_⟩
     ·rw [if_neg c4] at H
      have c4b0 : decide (((rd_T40 l0 x3_1).f0) < 0) = false := decide_eq_false c4
      clear c4
      by_cases c5 : ((rd_T40 l0 x3_1).f0) > 1125899906842624
      ·rw [if_pos c5] at H
       have c5b0 : decide (1125899906842624 < ((rd_T40 l0 x3_1).f0)) = true := decide_eq_true c5
       clear c5
       obtain rfl := Option.some.inj H
       have p198 : 0 ≤ (x3_1 : Int) := of_decide_eq_true q5_
       have q198 : x3_1 < (l0.length : Int) := of_decide_eq_true q5_
       obtain ⟨ad198,e198,hx198_0,hx198_1⟩ := at_T40 HR0.out x3_1 p198 q198
       cases e198
       replace p198 := eq_true p198
       replace q198 := eq_true q198
       have p199 : 0 ≤ (x3_1 : Int) := of_decide_eq_true q5_
       have q199 : x3_1 < (l0.length : Int) := of_decide_eq_true q5_
       obtain ⟨ad199,e199,hx199_0,hx199_1⟩ := at_T40 HR0.out x3_1 p199 q199
       obtain rfl : ad198 = ad199 := (by injection e199)
       replace p199 := eq_true p199
       replace q199 := eq_true q199
       go_wp2
       repeat (go_quiet (fail);try go_wp2)
       go_ret
       exact ⟨q10_,q19_⟩
      ·rw [if_neg c5] at H
       have c5b0 : decide (1125899906842624 < ((rd_T40 l0 x3_1).f0)) = false := decide_eq_false c5
       clear c5
       by_cases c6 : x3_1 > 0
       ·rw [if_pos c6] at H
        have c6b0 : decide (0 < x3_1) = true := decide_eq_true c6
        clear c6
        obtain ⟨ji7,hji7⟩ : ∃ j_ : Int,(wrap64 (x3_1 - 1)) = j_ := ⟨_,rfl⟩
        replace H : (if 0 ≤ (ji7) then (if (ji7) < (l0.length : Int) then (if ((rd_T40 l0 x3_1).f0) ≤ ((rd_T40 l0 (ji7)).f0) then (some false) else (batonref22_May.l0 k1 l0 (wrap64 (x3_1 + 1)))) else (none)) else (none)) = some r := by first|(rw [hji7] at H;exact H)|(simp only [hji7] at H ⊢;exact H)
        have hji7w : (IntKind.i64.wrap (x3_1 - 1)) = ji7 := (i64_w _).trans hji7
        by_cases c8 : 0 ≤ (ji7)
        ·rw [if_pos c8] at H
         have c8b0 : decide (0 ≤ (ji7)) = true := decide_eq_true c8
         clear c8
         by_cases c9 : (ji7) < (l0.length : Int)
         ·rw [if_pos c9] at H
          have c9b0 : decide ((ji7) < (l0.length : Int)) = true := decide_eq_true c9
          clear c9
          by_cases c10 : ((rd_T40 l0 x3_1).f0) ≤ ((rd_T40 l0 (ji7)).f0)
          ·rw [if_pos c10] at H
           have c10b0 : decide (((rd_T40 l0 x3_1).f0) ≤ ((rd_T40 l0 (ji7)).f0)) = true := decide_eq_true c10
           clear c10
           obtain rfl := Option.some.inj H
           have p198 : 0 ≤ (x3_1 : Int) := of_decide_eq_true q5_
           have q198 : x3_1 < (l0.length : Int) := of_decide_eq_true q5_
           obtain ⟨ad198,e198,hx198_0,hx198_1⟩ := at_T40 HR0.out x3_1 p198 q198
           cases e198
           replace p198 := eq_true p198
           replace q198 := eq_true q198
           have p199 : 0 ≤ (x3_1 : Int) := of_decide_eq_true q5_
           have q199 : x3_1 < (l0.length : Int) := of_decide_eq_true q5_
           obtain ⟨ad199,e199,hx199_0,hx199_1⟩ := at_T40 HR0.out x3_1 p199 q199
           obtain rfl : ad198 = ad199 := (by injection e199)
           replace p199 := eq_true p199
           replace q199 := eq_true q199
           have p200 : 0 ≤ (x3_1 : Int) := of_decide_eq_true q5_
           have q200 : x3_1 < (l0.length : Int) := of_decide_eq_true q5_
           obtain ⟨ad200,e200,hx200_0,hx200_1⟩ := at_T40 HR0.out x3_1 p200 q200
           obtain rfl : ad198 = ad200 := (by injection e200)
           replace p200 := eq_true p200
           replace q200 := eq_true q200
           have p201 : 0 ≤ ((ji7) : Int) := of_decide_eq_true q5_
           have q201 : (ji7) < (l0.length : Int) := of_decide_eq_true q5_
           obtain ⟨ad201,e201,hx201_0,hx201_1⟩ := at_T40 HR0.out (ji7) p201 q201
           obtain rfl : ad198 = ad201 := (by injection e201)
           replace p201 := eq_true p201
           replace q201 := eq_true q201
           go_wp2
           repeat (go_quiet (fail);try go_wp2)
           go_ret
           exact ⟨by first|rfl|(simp;done)|(simp only [← hji7] <;> (first|rfl|simp))|(simp [*];done),q19_⟩
          ·rw [if_neg c10] at H
           have c10b0 : decide (((rd_T40 l0 x3_1).f0) ≤ ((rd_T40 l0 (ji7)).f0)) = false := decide_eq_false c10
           clear c10
           have H' := Aside0.mk H
           clear H
           have p198 : 0 ≤ (x3_1 : Int) := of_decide_eq_true q5_
           have q198 : x3_1 < (l0.length : Int) := of_decide_eq_true q5_
           obtain ⟨ad198,e198,hx198_0,hx198_1⟩ := at_T40 HR0.out x3_1 p198 q198
           cases e198
           replace p198 := eq_true p198
           replace q198 := eq_true q198
           have p199 : 0 ≤ (x3_1 : Int) := of_decide_eq_true q5_
           have q199 : x3_1 < (l0.length : Int) := of_decide_eq_true q5_
           obtain ⟨ad199,e199,hx199_0,hx199_1⟩ := at_T40 HR0.out x3_1 p199 q199
           obtain rfl : ad198 = ad199 := (by injection e199)
           replace p199 := eq_true p199
           replace q199 := eq_true q199
           have p200 : 0 ≤ (x3_1 : Int) := of_decide_eq_true q5_
           have q200 : x3_1 < (l0.length : Int) := of_decide_eq_true q5_
           obtain ⟨ad200,e200,hx200_0,hx200_1⟩ := at_T40 HR0.out x3_1 p200 q200
           obtain rfl : ad198 = ad200 := (by injection e200)
           replace p200 := eq_true p200
           replace q200 := eq_true q200
           have p201 : 0 ≤ ((ji7) : Int) := of_decide_eq_true q5_
           have q201 : (ji7) < (l0.length : Int) := of_decide_eq_true q5_
           obtain ⟨ad201,e201,hx201_0,hx201_1⟩ := at_T40 HR0.out (ji7) p201 q201
           obtain rfl : ad198 = ad201 := (by injection e201)
           replace p201 := eq_true p201
           replace q201 := eq_true q201
           go_wp2
           repeat (go_quiet (fail);try go_wp2)
           go_roundg k1
           case measure=>have := HK1.out;omega
           case rel=>exact ⟨(wrap64 (x3_1 + 1)),q10_,H',⟨q46_⟩,q19_⟩
         ·rw [if_neg c9] at H
          exact absurd H (by simp)
        ·rw [if_neg c8] at H
         exact absurd H (by simp)
       ·rw [if_neg c6] at H
        have c6b0 : decide (0 < x3_1) = false := decide_eq_false c6
        clear c6
        have H' := Aside0.mk H
        clear H
        have p198 : 0 ≤ (x3_1 : Int) := of_decide_eq_true q5_
        have q198 : x3_1 < (l0.length : Int) := of_decide_eq_true q5_
        obtain ⟨ad198,e198,hx198_0,hx198_1⟩ := at_T40 HR0.out x3_1 p198 q198
        cases e198
        replace p198 := eq_true p198
        replace q198 := eq_true q198
        have p199 : 0 ≤ (x3_1 : Int) := of_decide_eq_true q5_
        have q199 : x3_1 < (l0.length : Int) := of_decide_eq_true q5_
        obtain ⟨ad199,e199,hx199_0,hx199_1⟩ := at_T40 HR0.out x3_1 p199 q199
        obtain rfl : ad198 = ad199 := (by injection e199)
        replace p199 := eq_true p199
        replace q199 := eq_true q199
        go_wp2
        repeat (go_quiet (fail);try go_wp2)
        go_roundg k1
        case measure=>have := HK1.out;omega
        case rel=>exact ⟨(wrap64 (x3_1 + 1)),q10_,H',⟨q46_⟩,q19_⟩
    ·rw [if_neg c3] at H
     exact absurd H (by simp)
   ·rw [if_neg c2] at H
    have c2b0 : decide (x3_1 < (l0.length : Int)) = false := decide_eq_false c2
    clear c2
    obtain rfl := Option.some.inj H
    go_wp2
    repeat (go_quiet (fail);try go_wp2)
    go_ret
    exact ⟨q10_,q19_⟩

end Go.Proofs.YtbedpnklnamnhaaDoor.PF

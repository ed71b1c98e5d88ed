/- The machine side of these statements: what each Go function computes as a plain function, and that its call computes just that. Written by a program of mine (wip/drive.py). No conditions. -/
import Derived.Test.YthcjcmgdblhhfaaPVx0
namespace Go.Proofs.Ythcjcmgdblhhfaa.PV
open Go.RowKit Go.Proofs.YthcjcmgdblhhfaaW.PrintWords Go.Proofs.YthcjcmgdblhhfaaW.PrintLast Go.Proofs.YthcjcmgdblhhfaaW.PrintMore
attribute [local go_sem] max2_int min2_int max_two min_two max_three min_three max_four min_four   -- for this text's walks alone
set_option linter.unusedVariables false
set_option linter.unusedSimpArgs false

/-! ### batonlaw03_long: function 19 -/
def batonlaw03_long.l0 : Nat → List (S72) → Int → Int → Option (Bool)
 | 0,_,_,_=>none
 | k + 1,x0,x3,x4=>if x4 < (x0.length : Int) then (if x3 < 5000 then (if 0 ≤ x4 then (batonlaw03_long.l0 k x0 (wrap64 ((wrap64 (x3 + 70)) + (mn (((rd_T72 x0 x4).f1).size : Int) 5000))) (wrap64 (x4 + 1))) else (none)) else (some (decide (x3 ≥ 5000)))) else (some (decide (x3 ≥ 5000)))
def batonlaw03_long.f (k : Nat) (l0 : List (S72)) : Option (Bool) := batonlaw03_long.l0 k l0 0 0
theorem batonlaw03_long.mono_l : ∀ k, (∀ y0 y1 y2, LeO (batonlaw03_long.l0 k y0 y1 y2) (batonlaw03_long.l0 (k + 1) y0 y1 y2))
 | 0=>fun _ _ _ r h=>by simp [batonlaw03_long.l0] at h
 | k + 1=>by
  have ih0 := batonlaw03_long.mono_l k
  ·intro y0 y1 y2
   unfold batonlaw03_long.l0
   repeat' first
   | (with_reducible exact ih0 _ _ _)
   | (with_reducible exact LeO.refl _)
   | (with_reducible exact LeO.none _)
   | (with_reducible refine LeO.ite ?_ ?_)
   | (with_reducible refine LeO.bind ?_ (fun _=>?_))
   | exact ih0 _ _ _
   | exact LeO.none _
   | refine LeO.ite ?_ ?_
   | refine LeO.bind ?_ (fun _=>?_)
theorem batonlaw03_long.mono : ∀ a0 k, LeO (batonlaw03_long.f k a0) (batonlaw03_long.f (k + 1) a0) := by
 intro a0 k
 have ih0 := batonlaw03_long.mono_l k
 unfold batonlaw03_long.f
 repeat' first
   | (with_reducible exact ih0 _ _ _)
   | (with_reducible exact LeO.refl _)
   | (with_reducible exact LeO.none _)
   | (with_reducible refine LeO.ite ?_ ?_)
   | (with_reducible refine LeO.bind ?_ (fun _=>?_))
   | exact ih0 _ _ _
   | exact LeO.none _
   | refine LeO.ite ?_ ?_
   | refine LeO.bind ?_ (fun _=>?_)
set_option maxHeartbeats 8000000 in
set_option maxRecDepth 100000 in
theorem batonlaw03_long.calls (k : Nat) (A0 : Option Addr) (c0 : Nat) (l0 : List (S72)) (r : Bool) (w : World) (hr0 : Kd.C k72 w A0 l0.length l0) (hc0 : l0.length ≤ c0) (h : batonlaw03_long.f k l0 = some r) :
  Calls Try.prog 19 #[.slice A0 l0.length c0] w fun e w'=>e = .returned (.bool r) ∧ Below w.heap.size w w' := by
 have HR0 := Aside0.mk hr0
 have HC0 := Aside0.mk hc0
 clear hr0 hc0
 have HB := Aside0.mk (Below.refl w.heap.size w)
 have H : (batonlaw03_long.l0 k l0 0 0) = some r := h
 clear h
 have H' := Aside0.mk H
 clear H
 go_enter Try.func19,Try.ntmps19
 go_wp2
 go_loopg [3,4] k (fun kq v3 v4 w'=>∃ (x3_1 : Int) (x4_1 : Int),v3 = .int .i64 x3_1 ∧ v4 = .int .i64 x4_1 ∧ Aside0 (batonlaw03_long.l0 kq l0 x3_1 x4_1 = some r) ∧ Aside0 (kq ≤ k) ∧ Aside0 (Below w.heap.size w w'))
 case atStart=>exact ⟨(0),(0),q4_,q4_,H',⟨Nat.le_refl _⟩,⟨bl_⟩⟩
 case round =>
  clear H'
  try clear c1
  obtain ⟨x3_1,x4_1,rfl,rfl,HA,HK1,HB⟩ := hrel
  cases gk with
  | zero=>exact absurd HA.out (by simp [batonlaw03_long.l0])
  | succ k1 =>
   have H := HA.out
   clear HA
   simp only [batonlaw03_long.l0] at H
   by_cases c2 : x4_1 < (l0.length : Int)
   ·rw [if_pos c2] at H
    have c2b0 : decide (x4_1 < (l0.length : Int)) = true := decide_eq_true c2
    clear c2
    by_cases c3 : x3_1 < 5000
    ·rw [if_pos c3] at H
     have c3b0 : decide (x3_1 < 5000) = true := decide_eq_true c3
     clear c3
     by_cases c4 : 0 ≤ x4_1
     ·rw [if_pos c4] at H
      have c4b0 : decide (0 ≤ x4_1) = true := decide_eq_true c4
      clear c4
      obtain ⟨ji5,hji5⟩ : ∃ j_ : Int,(mn (((rd_T72 l0 x4_1).f1).size : Int) 5000) = j_ := ⟨_,rfl⟩
      replace H : (batonlaw03_long.l0 k1 l0 (wrap64 ((wrap64 (x3_1 + 70)) + (ji5))) (wrap64 (x4_1 + 1))) = some r := by first|(rw [hji5] at H;exact H)|(simp only [hji5] at H ⊢;exact H)
      have hji5_ : (if 5000 < (((rd_T72 l0 x4_1).f1).size : Int) then 5000 else (((rd_T72 l0 x4_1).f1).size : Int)) = ji5 := hji5
      have H' := Aside0.mk H
      clear H
      have p339 : 0 ≤ (x4_1 : Int) := of_decide_eq_true q3_
      have q339 : x4_1 < (l0.length : Int) := of_decide_eq_true q3_
      obtain ⟨ad339,e339,hx339_0,hx339_1,hx339_2,hx339_3⟩ := at_T72 HR0.out x4_1 p339 q339
      cases e339
      replace hx339_0 := (HB.out.cell (World.block_lt_of_cell? w _ hx339_0)).trans hx339_0
      replace hx339_1 := (HB.out.cell (World.block_lt_of_cell? w _ hx339_1)).trans hx339_1
      replace hx339_2 := (HB.out.cell (World.block_lt_of_cell? w _ hx339_2)).trans hx339_2
      replace hx339_3 := (HB.out.cell (World.block_lt_of_cell? w _ hx339_3)).trans hx339_3
      replace p339 := eq_true p339
      replace q339 := eq_true q339
      go_wp2
      go_roundg k1
      case measure=>have := HK1.out;omega
      case rel=>exact ⟨(wrap64 ((wrap64 (x3_1 + 70)) + (ji5))),(wrap64 (x4_1 + 1)),(by first|rfl|(simp;done)|(simp only [← hji5] <;> (first|rfl|simp))|(simp [*];done)),q4_,H',⟨q85_⟩,⟨bl_⟩⟩
     ·rw [if_neg c4] at H
      exact absurd H (by simp)
    ·rw [if_neg c3] at H
     have c3b0 : decide (x3_1 < 5000) = false := decide_eq_false c3
     clear c3
     obtain rfl := Option.some.inj H
     go_wp2
     go_ret
     exact ⟨q1_,bl_⟩
   ·rw [if_neg c2] at H
    have c2b0 : decide (x4_1 < (l0.length : Int)) = false := decide_eq_false c2
    clear c2
    obtain rfl := Option.some.inj H
    go_wp2
    go_ret
    exact ⟨q1_,bl_⟩

end Go.Proofs.Ythcjcmgdblhhfaa.PV

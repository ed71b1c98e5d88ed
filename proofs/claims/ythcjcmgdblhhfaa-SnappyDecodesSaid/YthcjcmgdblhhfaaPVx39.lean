/- The machine side of these statements: what each Go function computes as a plain function, and that its call computes just that. Written by a program of mine (wip/drive.py). No conditions. -/
import Derived.Test.YthcjcmgdblhhfaaPVx0
namespace Go.Proofs.Ythcjcmgdblhhfaa.PV
open Go.RowKit Go.Proofs.YthcjcmgdblhhfaaW.PrintWords Go.Proofs.YthcjcmgdblhhfaaW.PrintLast Go.Proofs.YthcjcmgdblhhfaaW.PrintMore
attribute [local go_sem] max2_int min2_int max_two min_two max_three min_three max_four min_four   -- for this text's walks alone
set_option linter.unusedVariables false
set_option linter.unusedSimpArgs false

/-! ### batonref03_low: function 59 -/
def batonref03_low.l0 : Nat → ByteArray → Int → Int → Int → Option (Int)
 | 0,_,_,_,_=>none
 | k + 1,x0,x3,x4,x5=>if x5 < (x0.size : Int) then (if 0 ≤ x5 then (batonref03_low.l0 k x0 (wrap64 (x3 + (wrap64 (x4 * (wrap64 (bt x0 x5)))))) (wrap64 (x4 * 256)) (wrap64 (x5 + 1))) else (none)) else (some x3)
def batonref03_low.f (k : Nat) (a0 : ByteArray) : Option (Int) := batonref03_low.l0 k a0 0 1 0
theorem batonref03_low.mono_l : ∀ k, (∀ y0 y1 y2 y3, LeO (batonref03_low.l0 k y0 y1 y2 y3) (batonref03_low.l0 (k + 1) y0 y1 y2 y3))
 | 0=>fun _ _ _ _ r h=>by simp [batonref03_low.l0] at h
 | k + 1=>by
  have ih0 := batonref03_low.mono_l k
  ·intro y0 y1 y2 y3
   unfold batonref03_low.l0
   repeat' first
   | (with_reducible exact ih0 _ _ _ _)
   | (with_reducible exact LeO.refl _)
   | (with_reducible exact LeO.none _)
   | (with_reducible refine LeO.ite ?_ ?_)
   | (with_reducible refine LeO.bind ?_ (fun _=>?_))
   | exact ih0 _ _ _ _
   | exact LeO.none _
   | refine LeO.ite ?_ ?_
   | refine LeO.bind ?_ (fun _=>?_)
theorem batonref03_low.mono : ∀ a0 k, LeO (batonref03_low.f k a0) (batonref03_low.f (k + 1) a0) := by
 intro a0 k
 have ih0 := batonref03_low.mono_l k
 unfold batonref03_low.f
 repeat' first
   | (with_reducible exact ih0 _ _ _ _)
   | (with_reducible exact LeO.refl _)
   | (with_reducible exact LeO.none _)
   | (with_reducible refine LeO.ite ?_ ?_)
   | (with_reducible refine LeO.bind ?_ (fun _=>?_))
   | exact ih0 _ _ _ _
   | exact LeO.none _
   | refine LeO.ite ?_ ?_
   | refine LeO.bind ?_ (fun _=>?_)
set_option maxHeartbeats 8000000 in
set_option maxRecDepth 100000 in
theorem batonref03_low.calls (k : Nat) (a0 : ByteArray) (r : Int) (w : World) (h : batonref03_low.f k a0 = some r) :
  Calls Try.prog 59 #[.string a0] w fun e w'=>e = .returned (.int .i64 r) ∧ Drawn0 w w' := by
 have H : (batonref03_low.l0 k a0 0 1 0) = some r := h
 clear h
 have H' := Aside0.mk H
 clear H
 go_enter Try.func59,Try.ntmps59
 go_wp2
 go_loopg [3,4,5] k (fun kq v3 v4 v5 w'=>∃ (x3_1 : Int) (x4_1 : Int) (x5_1 : Int),v3 = .int .i64 x3_1 ∧ v4 = .int .i64 x4_1 ∧ v5 = .int .i64 x5_1 ∧ Aside0 (batonref03_low.l0 kq a0 x3_1 x4_1 x5_1 = some r) ∧ Aside0 (kq ≤ k) ∧ Drawn0 w w')
 case atStart=>exact ⟨(0),(1),(0),q4_,q4_,q4_,H',⟨Nat.le_refl _⟩,q18_⟩
 case round =>
  clear H'
  obtain ⟨x3_1,x4_1,x5_1,rfl,rfl,rfl,HA,HK1,⟨m1,rfl⟩⟩ := hrel
  cases gk with
  | zero=>exact absurd HA.out (by simp [batonref03_low.l0])
  | succ k1 =>
   have H := HA.out
   clear HA
   simp only [batonref03_low.l0] at H
   by_cases c2 : x5_1 < (a0.size : Int)
   ·rw [if_pos c2] at H
    have c2b0 : decide (x5_1 < (a0.size : Int)) = true := decide_eq_true c2
    clear c2
    by_cases c3 : 0 ≤ x5_1
    ·rw [if_pos c3] at H
     have c3b0 : decide (0 ≤ x5_1) = true := decide_eq_true c3
     clear c3
     have H' := Aside0.mk H
     clear H
     have p4 : 0 ≤ (x5_1 : Int) := of_decide_eq_true q3_
     have q4 : x5_1 < (a0.size : Int) := of_decide_eq_true q3_
     have hx4 := bt_at a0 x5_1
     replace p4 := eq_true p4
     replace q4 := eq_true q4
     go_wp2
     go_roundg k1
     case measure=>have := HK1.out;omega
     case rel=>exact ⟨(wrap64 (x3_1 + (wrap64 (x4_1 * (wrap64 (bt a0 x5_1)))))),(wrap64 (x4_1 * 256)),(wrap64 (x5_1 + 1)),q4_,q4_,q4_,H',⟨q85_⟩,q18_⟩
    ·rw [if_neg c3] at H
     exact absurd H (by simp)
   ·rw [if_neg c2] at H
    have c2b0 : decide (x5_1 < (a0.size : Int)) = false := decide_eq_false c2
    clear c2
    obtain rfl := Option.some.inj H
    go_wp2
    go_ret
    exact ⟨q4_,q18_⟩

end Go.Proofs.Ythcjcmgdblhhfaa.PV

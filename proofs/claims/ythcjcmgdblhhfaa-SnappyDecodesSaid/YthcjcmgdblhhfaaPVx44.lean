/- The machine side of these statements: what each Go function computes as a plain function, and that its call computes just that. Written by a program of mine (wip/drive.py). No conditions. -/
import Derived.Test.YthcjcmgdblhhfaaPVx0
import Derived.Test.YthcjcmgdblhhfaaPVx1
import Derived.Test.YthcjcmgdblhhfaaPVx10
import Derived.Test.YthcjcmgdblhhfaaPVx18
import Derived.Test.YthcjcmgdblhhfaaPVx28
import Derived.Test.YthcjcmgdblhhfaaPVx38
import Derived.Test.YthcjcmgdblhhfaaPVx41
import Derived.Test.YthcjcmgdblhhfaaPVx42
import Derived.Test.YthcjcmgdblhhfaaPVx43
namespace Go.Proofs.Ythcjcmgdblhhfaa.PV
open Go.RowKit Go.Proofs.YthcjcmgdblhhfaaW.PrintWords Go.Proofs.YthcjcmgdblhhfaaW.PrintLast Go.Proofs.YthcjcmgdblhhfaaW.PrintMore
attribute [local go_sem] max2_int min2_int max_two min_two max_three min_three max_four min_four   -- for this text's walks alone
set_option linter.unusedVariables false
set_option linter.unusedSimpArgs false

/-! ### batonlaw03_SnappyDecodes: function 10 -/
mutual
def batonlaw03_SnappyDecodes.j0 : Nat → ByteArray → Int → Bool → Option (Bool)
 | 0,_,_,_=>none
 | k + 1,x0,x1,x25=>if x25 = true then ((batonlaw03_awake.f k).bind fun t543=>(some t543)) else ((snappy_Size.f k x0).bind fun bt544=>((batonref03_Size.f k x0).bind fun bt546=>((snappy_Decode.f k x0 x1).bind fun bt548=>((batonref03_Decode.f k x0 x1).bind fun bt550=>(if bt544.1 = bt546.1 then (if bt544.2 = bt546.2 then (if bt548.1.toList = bt550.1.toList then (batonlaw03_SnappyDecodes.j1 k x0 (bt548.2 != bt550.2)) else (batonlaw03_SnappyDecodes.j1 k x0 true)) else (batonlaw03_SnappyDecodes.j1 k x0 true)) else (batonlaw03_SnappyDecodes.j1 k x0 true))))))
def batonlaw03_SnappyDecodes.j1 : Nat → ByteArray → Bool → Option (Bool)
 | 0,_,_=>none
 | k + 1,x0,x66=>if x66 = true then (some false) else (batonlaw03_SnappyDecodes.l0 k x0 0)
def batonlaw03_SnappyDecodes.l0 : Nat → ByteArray → Int → Option (Bool)
 | 0,_,_=>none
 | k + 1,x0,x13=>if x13 < 2 then ((snappy_Parts.f k x0).bind fun bt553=>((batonref03_Parts.f k x0).bind fun bt557=>(if bt553.2 = bt557.2 then ((batonlaw03_same.f k bt553.1 bt557.1).bind fun t561=>(batonlaw03_SnappyDecodes.j3 k x0 x13 bt553.1 (!t561))) else (batonlaw03_SnappyDecodes.j3 k x0 x13 bt553.1 true)))) else ((batonlaw03_awake.f k).bind fun t552=>(some t552))
def batonlaw03_SnappyDecodes.j3 : Nat → ByteArray → Int → List (S35) → Bool → Option (Bool)
 | 0,_,_,_,_=>none
 | k + 1,x0,x13,x14,x89=>if x89 = true then (some false) else (batonlaw03_SnappyDecodes.l1 k x0 x13 x14 0)
def batonlaw03_SnappyDecodes.l1 : Nat → ByteArray → Int → List (S35) → Int → Option (Bool)
 | 0,_,_,_,_=>none
 | k + 1,x0,x13,x14,x18=>if x18 < (x14.length : Int) then (if 0 ≤ x18 then (batonlaw03_SnappyDecodes.l1 k x0 x13 (x14.set (x18 : Int).toNat (⟨false,(⟨#[]⟩ : ByteArray),(-7),0⟩ : S35)) (wrap64 (x18 + 1))) else (none)) else (batonlaw03_SnappyDecodes.l0 k x0 (wrap64 (x13 + 1)))
end
def batonlaw03_SnappyDecodes.f (k : Nat) (a0 : ByteArray) (a1 : Int) : Option (Bool) := if (a0.size : Int) > 3000 then (batonlaw03_SnappyDecodes.j0 k a0 a1 true) else (batonlaw03_SnappyDecodes.j0 k a0 a1 (decide (a1 > 20000)))
theorem batonlaw03_SnappyDecodes.mono_l : ∀ k, (∀ y0 y1 y2, LeO (batonlaw03_SnappyDecodes.j0 k y0 y1 y2) (batonlaw03_SnappyDecodes.j0 (k + 1) y0 y1 y2)) ∧ (∀ y0 y1, LeO (batonlaw03_SnappyDecodes.j1 k y0 y1) (batonlaw03_SnappyDecodes.j1 (k + 1) y0 y1)) ∧ (∀ y0 y1, LeO (batonlaw03_SnappyDecodes.l0 k y0 y1) (batonlaw03_SnappyDecodes.l0 (k + 1) y0 y1)) ∧ (∀ y0 y1 y2 y3, LeO (batonlaw03_SnappyDecodes.j3 k y0 y1 y2 y3) (batonlaw03_SnappyDecodes.j3 (k + 1) y0 y1 y2 y3)) ∧ (∀ y0 y1 y2 y3, LeO (batonlaw03_SnappyDecodes.l1 k y0 y1 y2 y3) (batonlaw03_SnappyDecodes.l1 (k + 1) y0 y1 y2 y3))
 | 0=>⟨fun _ _ _ r h=>by simp [batonlaw03_SnappyDecodes.j0] at h,fun _ _ r h=>by simp [batonlaw03_SnappyDecodes.j1] at h,fun _ _ r h=>by simp [batonlaw03_SnappyDecodes.l0] at h,fun _ _ _ _ r h=>by simp [batonlaw03_SnappyDecodes.j3] at h,fun _ _ _ _ r h=>by simp [batonlaw03_SnappyDecodes.l1] at h⟩
 | k + 1=>by
  obtain ⟨ih0,ih1,ih2,ih3,ih4⟩ := batonlaw03_SnappyDecodes.mono_l k
  refine ⟨?_,?_,?_,?_,?_⟩
  ·intro y0 y1 y2
   unfold batonlaw03_SnappyDecodes.j0
   repeat' first
   | (with_reducible exact ih0 _ _ _)
   | (with_reducible exact ih1 _ _)
   | (with_reducible exact ih2 _ _)
   | (with_reducible exact ih3 _ _ _ _)
   | (with_reducible exact ih4 _ _ _ _)
   | (with_reducible exact batonlaw03_awake.mono _)
   | (with_reducible exact batonlaw03_same.mono _ _ _)
   | (with_reducible exact batonref03_Decode.mono _ _ _)
   | (with_reducible exact batonref03_Parts.mono _ _)
   | (with_reducible exact batonref03_Size.mono _ _)
   | (with_reducible exact snappy_Decode.mono _ _ _)
   | (with_reducible exact snappy_Parts.mono _ _)
   | (with_reducible exact snappy_Size.mono _ _)
   | (with_reducible exact LeO.refl _)
   | (with_reducible exact LeO.none _)
   | (with_reducible refine LeO.ite ?_ ?_)
   | (with_reducible refine LeO.bind ?_ (fun _=>?_))
   | exact ih0 _ _ _
   | exact ih1 _ _
   | exact ih2 _ _
   | exact ih3 _ _ _ _
   | exact ih4 _ _ _ _
   | exact batonlaw03_awake.mono _
   | exact batonlaw03_same.mono _ _ _
   | exact batonref03_Decode.mono _ _ _
   | exact batonref03_Parts.mono _ _
   | exact batonref03_Size.mono _ _
   | exact snappy_Decode.mono _ _ _
   | exact snappy_Parts.mono _ _
   | exact snappy_Size.mono _ _
   | exact LeO.none _
   | refine LeO.ite ?_ ?_
   | refine LeO.bind ?_ (fun _=>?_)
  ·intro y0 y1
   unfold batonlaw03_SnappyDecodes.j1
   repeat' first
   | (with_reducible exact ih0 _ _ _)
   | (with_reducible exact ih1 _ _)
   | (with_reducible exact ih2 _ _)
   | (with_reducible exact ih3 _ _ _ _)
   | (with_reducible exact ih4 _ _ _ _)
   | (with_reducible exact batonlaw03_awake.mono _)
   | (with_reducible exact batonlaw03_same.mono _ _ _)
   | (with_reducible exact batonref03_Decode.mono _ _ _)
   | (with_reducible exact batonref03_Parts.mono _ _)
   | (with_reducible exact batonref03_Size.mono _ _)
   | (with_reducible exact snappy_Decode.mono _ _ _)
   | (with_reducible exact snappy_Parts.mono _ _)
   | (with_reducible exact snappy_Size.mono _ _)
   | (with_reducible exact LeO.refl _)
   | (with_reducible exact LeO.none _)
   | (with_reducible refine LeO.ite ?_ ?_)
   | (with_reducible refine LeO.bind ?_ (fun _=>?_))
   | exact ih0 _ _ _
   | exact ih1 _ _
   | exact ih2 _ _
   | exact ih3 _ _ _ _
   | exact ih4 _ _ _ _
   | exact batonlaw03_awake.mono _
   | exact batonlaw03_same.mono _ _ _
   | exact batonref03_Decode.mono _ _ _
   | exact batonref03_Parts.mono _ _
   | exact batonref03_Size.mono _ _
   | exact snappy_Decode.mono _ _ _
   | exact snappy_Parts.mono _ _
   | exact snappy_Size.mono _ _
   | exact LeO.none _
   | refine LeO.ite ?_ ?_
   | refine LeO.bind ?_ (fun _=>?_)
  ·intro y0 y1
   unfold batonlaw03_SnappyDecodes.l0
   repeat' first
   | (with_reducible exact ih0 _ _ _)
   | (with_reducible exact ih1 _ _)
   | (with_reducible exact ih2 _ _)
   | (with_reducible exact ih3 _ _ _ _)
   | (with_reducible exact ih4 _ _ _ _)
   | (with_reducible exact batonlaw03_awake.mono _)
   | (with_reducible exact batonlaw03_same.mono _ _ _)
   | (with_reducible exact batonref03_Decode.mono _ _ _)
   | (with_reducible exact batonref03_Parts.mono _ _)
   | (with_reducible exact batonref03_Size.mono _ _)
   | (with_reducible exact snappy_Decode.mono _ _ _)
   | (with_reducible exact snappy_Parts.mono _ _)
   | (with_reducible exact snappy_Size.mono _ _)
   | (with_reducible exact LeO.refl _)
   | (with_reducible exact LeO.none _)
   | (with_reducible refine LeO.ite ?_ ?_)
   | (with_reducible refine LeO.bind ?_ (fun _=>?_))
   | exact ih0 _ _ _
   | exact ih1 _ _
   | exact ih2 _ _
   | exact ih3 _ _ _ _
   | exact ih4 _ _ _ _
   | exact batonlaw03_awake.mono _
   | exact batonlaw03_same.mono _ _ _
   | exact batonref03_Decode.mono _ _ _
   | exact batonref03_Parts.mono _ _
   | exact batonref03_Size.mono _ _
   | exact snappy_Decode.mono _ _ _
   | exact snappy_Parts.mono _ _
   | exact snappy_Size.mono _ _
   | exact LeO.none _
   | refine LeO.ite ?_ ?_
   | refine LeO.bind ?_ (fun _=>?_)
  ·intro y0 y1 y2 y3
   unfold batonlaw03_SnappyDecodes.j3
   repeat' first
   | (with_reducible exact ih0 _ _ _)
   | (with_reducible exact ih1 _ _)
   | (with_reducible exact ih2 _ _)
   | (with_reducible exact ih3 _ _ _ _)
   | (with_reducible exact ih4 _ _ _ _)
   | (with_reducible exact batonlaw03_awake.mono _)
   | (with_reducible exact batonlaw03_same.mono _ _ _)
   | (with_reducible exact batonref03_Decode.mono _ _ _)
   | (with_reducible exact batonref03_Parts.mono _ _)
   | (with_reducible exact batonref03_Size.mono _ _)
   | (with_reducible exact snappy_Decode.mono _ _ _)
   | (with_reducible exact snappy_Parts.mono _ _)
   | (with_reducible exact snappy_Size.mono _ _)
   | (with_reducible exact LeO.refl _)
   | (with_reducible exact LeO.none _)
   | (with_reducible refine LeO.ite ?_ ?_)
   | (with_reducible refine LeO.bind ?_ (fun _=>?_))
   | exact ih0 _ _ _
   | exact ih1 _ _
   | exact ih2 _ _
   | exact ih3 _ _ _ _
   | exact ih4 _ _ _ _
   | exact batonlaw03_awake.mono _
   | exact batonlaw03_same.mono _ _ _
   | exact batonref03_Decode.mono _ _ _
   | exact batonref03_Parts.mono _ _
   | exact batonref03_Size.mono _ _
   | exact snappy_Decode.mono _ _ _
   | exact snappy_Parts.mono _ _
   | exact snappy_Size.mono _ _
   | exact LeO.none _
   | refine LeO.ite ?_ ?_
   | refine LeO.bind ?_ (fun _=>?_)
  ·intro y0 y1 y2 y3
   unfold batonlaw03_SnappyDecodes.l1
   repeat' first
   | (with_reducible exact ih0 _ _ _)
   | (with_reducible exact ih1 _ _)
   | (with_reducible exact ih2 _ _)
   | (with_reducible exact ih3 _ _ _ _)
   | (with_reducible exact ih4 _ _ _ _)
   | (with_reducible exact batonlaw03_awake.mono _)
   | (with_reducible exact batonlaw03_same.mono _ _ _)
   | (with_reducible exact batonref03_Decode.mono _ _ _)
   | (with_reducible exact batonref03_Parts.mono _ _)
   | (with_reducible exact batonref03_Size.mono _ _)
   | (with_reducible exact snappy_Decode.mono _ _ _)
   | (with_reducible exact snappy_Parts.mono _ _)
   | (with_reducible exact snappy_Size.mono _ _)
   | (with_reducible exact LeO.refl _)
   | (with_reducible exact LeO.none _)
   | (with_reducible refine LeO.ite ?_ ?_)
   | (with_reducible refine LeO.bind ?_ (fun _=>?_))
   | exact ih0 _ _ _
   | exact ih1 _ _
   | exact ih2 _ _
   | exact ih3 _ _ _ _
   | exact ih4 _ _ _ _
   | exact batonlaw03_awake.mono _
   | exact batonlaw03_same.mono _ _ _
   | exact batonref03_Decode.mono _ _ _
   | exact batonref03_Parts.mono _ _
   | exact batonref03_Size.mono _ _
   | exact snappy_Decode.mono _ _ _
   | exact snappy_Parts.mono _ _
   | exact snappy_Size.mono _ _
   | exact LeO.none _
   | refine LeO.ite ?_ ?_
   | refine LeO.bind ?_ (fun _=>?_)
theorem batonlaw03_SnappyDecodes.mono : ∀ a0 a1 k, LeO (batonlaw03_SnappyDecodes.f k a0 a1) (batonlaw03_SnappyDecodes.f (k + 1) a0 a1) := by
 intro a0 a1 k
 obtain ⟨ih0,ih1,ih2,ih3,ih4⟩ := batonlaw03_SnappyDecodes.mono_l k
 unfold batonlaw03_SnappyDecodes.f
 repeat' first
   | (with_reducible exact ih0 _ _ _)
   | (with_reducible exact ih1 _ _)
   | (with_reducible exact ih2 _ _)
   | (with_reducible exact ih3 _ _ _ _)
   | (with_reducible exact ih4 _ _ _ _)
   | (with_reducible exact batonlaw03_awake.mono _)
   | (with_reducible exact batonlaw03_same.mono _ _ _)
   | (with_reducible exact batonref03_Decode.mono _ _ _)
   | (with_reducible exact batonref03_Parts.mono _ _)
   | (with_reducible exact batonref03_Size.mono _ _)
   | (with_reducible exact snappy_Decode.mono _ _ _)
   | (with_reducible exact snappy_Parts.mono _ _)
   | (with_reducible exact snappy_Size.mono _ _)
   | (with_reducible exact LeO.refl _)
   | (with_reducible exact LeO.none _)
   | (with_reducible refine LeO.ite ?_ ?_)
   | (with_reducible refine LeO.bind ?_ (fun _=>?_))
   | exact ih0 _ _ _
   | exact ih1 _ _
   | exact ih2 _ _
   | exact ih3 _ _ _ _
   | exact ih4 _ _ _ _
   | exact batonlaw03_awake.mono _
   | exact batonlaw03_same.mono _ _ _
   | exact batonref03_Decode.mono _ _ _
   | exact batonref03_Parts.mono _ _
   | exact batonref03_Size.mono _ _
   | exact snappy_Decode.mono _ _ _
   | exact snappy_Parts.mono _ _
   | exact snappy_Size.mono _ _
   | exact LeO.none _
   | refine LeO.ite ?_ ?_
   | refine LeO.bind ?_ (fun _=>?_)
set_option maxHeartbeats 8000000 in
set_option maxRecDepth 100000 in
theorem batonlaw03_SnappyDecodes.calls (k : Nat) (a0 : ByteArray) (a1 : Int) (r : Bool) (w : World) (h : batonlaw03_SnappyDecodes.f k a0 a1 = some r) :
  Calls Try.prog 10 #[.string a0,.int .i64 a1] w fun e w'=>e = .returned (.bool r) ∧ Below w.heap.size w w' := by
 have hu35 := Try.underlying35
 have HB := Aside0.mk (Below.refl w.heap.size w)
 have H : (if (a0.size : Int) > 3000 then (batonlaw03_SnappyDecodes.j0 k a0 a1 true) else (batonlaw03_SnappyDecodes.j0 k a0 a1 (decide (a1 > 20000)))) = some r := h
 clear h
 have HC3 := Aside0.mk H
 clear H
 go_enter Try.func10,Try.ntmps10
 go_upto_region 1 with (fail)
 go_cut [25] (fun v25 wc=>∃ (kq : Nat) (x25_2 : Bool),v25 = .bool x25_2 ∧ Aside0 (batonlaw03_SnappyDecodes.j0 kq a0 a1 x25_2 = some r) ∧ Aside0 (kq ≤ k) ∧ Aside0 (Below w.heap.size w wc))
 case first =>
  have H := HC3.out
  clear HC3
  by_cases c4 : (a0.size : Int) > 3000
  ·rw [if_pos c4] at H
   have c4b0 : decide (3000 < (a0.size : Int)) = true := decide_eq_true c4
   have c4b1 : decide (3000 < a0.size) = true := decide_eq_true q75_
   clear c4
   (first|rw [c4b0]|(simp only [i64_w,i32_w];rw [c4b0])|skip)
   have H' := Aside0.mk H
   clear H
   go_wp2
   go_meet
   case rel=>exact ⟨_,(true),q4_,H',⟨q50_⟩,⟨bl_⟩⟩
  ·rw [if_neg c4] at H
   have c4b0 : decide (3000 < (a0.size : Int)) = false := decide_eq_false c4
   have c4b1 : decide (3000 < a0.size) = false := decide_eq_false q75_
   clear c4
   (first|rw [c4b0]|(simp only [i64_w,i32_w];rw [c4b0])|skip)
   have H' := Aside0.mk H
   clear H
   go_wp2
   go_meet
   case rel=>exact ⟨_,(decide (a1 > 20000)),q4_,H',⟨q50_⟩,⟨bl_⟩⟩
 case rest =>
  clear HC3
  try clear c1
  try clear p2
  try clear c4
  try clear c4b0
  try clear c4b1
  obtain ⟨kq,x25_2,rfl,HA,HJ2,HB⟩ := hcut
  cases kq with
  | zero=>exact absurd HA.out (by simp [batonlaw03_SnappyDecodes.j0])
  | succ kj2 =>
   have H := HA.out
   clear HA
   simp only [batonlaw03_SnappyDecodes.j0] at H
   by_cases c5 : x25_2 = true
   ·subst c5
    have H1 : ((batonlaw03_awake.f kj2).bind fun t543=>(some t543)) = some r := by rw [if_pos rfl] at H;exact H
    clear H
    have H := H1
    clear H1
    replace H := Option.bind_eq_some_iff.mp H
    obtain ⟨t543,A60,H⟩ := H
    replace H : (some t543) = some r := H
    have A6 := Aside0.mk A60
    clear A60
    obtain rfl := Option.some.inj H
    go_wp2_with (first|((with_reducible refine gate_callee (f := 12) rfl ?_);refine goesL_ (some 26) rfl rfl Try.func12 q9_ rfl #[] rfl q0_ ?_;(with_reducible refine (batonlaw03_awake.calls kj2  t543 _ A6.out).mono ?_);rintro e w7 ⟨rfl,hb⟩;refine ⟨_,rfl,?_⟩;have n0_ := Aside0.mk (below_step (bl_) hb);clear HB;have HB := n0_;clear n0_;(try clear hb);(try clear hb2);(try clear hk);(try clear hi)))
    go_ret
    exact ⟨q1_,bl_⟩
   ·replace c5 := Bool.eq_false_iff.mpr c5
    subst c5
    have H1 : ((snappy_Size.f kj2 a0).bind fun bt544=>((batonref03_Size.f kj2 a0).bind fun bt546=>((snappy_Decode.f kj2 a0 a1).bind fun bt548=>((batonref03_Decode.f kj2 a0 a1).bind fun bt550=>(if bt544.1 = bt546.1 then (if bt544.2 = bt546.2 then (if bt548.1.toList = bt550.1.toList then (batonlaw03_SnappyDecodes.j1 kj2 a0 (bt548.2 != bt550.2)) else (batonlaw03_SnappyDecodes.j1 kj2 a0 true)) else (batonlaw03_SnappyDecodes.j1 kj2 a0 true)) else (batonlaw03_SnappyDecodes.j1 kj2 a0 true)))))) = some r := by rw [if_neg (show ¬ (false = true) by decide)] at H;exact H
    clear H
    have H := H1
    clear H1
    replace H := Option.bind_eq_some_iff.mp H
    obtain ⟨⟨t544,t545⟩,A80,H⟩ := H
    replace H : ((batonref03_Size.f kj2 a0).bind fun bt546=>((snappy_Decode.f kj2 a0 a1).bind fun bt548=>((batonref03_Decode.f kj2 a0 a1).bind fun bt550=>(if t544 = bt546.1 then (if t545 = bt546.2 then (if bt548.1.toList = bt550.1.toList then (batonlaw03_SnappyDecodes.j1 kj2 a0 (bt548.2 != bt550.2)) else (batonlaw03_SnappyDecodes.j1 kj2 a0 true)) else (batonlaw03_SnappyDecodes.j1 kj2 a0 true)) else (batonlaw03_SnappyDecodes.j1 kj2 a0 true))))) = some r := H
    have A8 := Aside0.mk A80
    clear A80
    replace H := Option.bind_eq_some_iff.mp H
    obtain ⟨⟨t546,t547⟩,A90,H⟩ := H
    replace H : ((snappy_Decode.f kj2 a0 a1).bind fun bt548=>((batonref03_Decode.f kj2 a0 a1).bind fun bt550=>(if t544 = t546 then (if t545 = t547 then (if bt548.1.toList = bt550.1.toList then (batonlaw03_SnappyDecodes.j1 kj2 a0 (bt548.2 != bt550.2)) else (batonlaw03_SnappyDecodes.j1 kj2 a0 true)) else (batonlaw03_SnappyDecodes.j1 kj2 a0 true)) else (batonlaw03_SnappyDecodes.j1 kj2 a0 true)))) = some r := H
    have A9 := Aside0.mk A90
    clear A90
    replace H := Option.bind_eq_some_iff.mp H
    obtain ⟨⟨t548,t549⟩,A100,H⟩ := H
    replace H : ((batonref03_Decode.f kj2 a0 a1).bind fun bt550=>(if t544 = t546 then (if t545 = t547 then (if t548.toList = bt550.1.toList then (batonlaw03_SnappyDecodes.j1 kj2 a0 (t549 != bt550.2)) else (batonlaw03_SnappyDecodes.j1 kj2 a0 true)) else (batonlaw03_SnappyDecodes.j1 kj2 a0 true)) else (batonlaw03_SnappyDecodes.j1 kj2 a0 true))) = some r := H
    have A10 := Aside0.mk A100
    clear A100
    replace H := Option.bind_eq_some_iff.mp H
    obtain ⟨⟨t550,t551⟩,A110,H⟩ := H
    replace H : (if t544 = t546 then (if t545 = t547 then (if t548.toList = t550.toList then (batonlaw03_SnappyDecodes.j1 kj2 a0 (t549 != t551)) else (batonlaw03_SnappyDecodes.j1 kj2 a0 true)) else (batonlaw03_SnappyDecodes.j1 kj2 a0 true)) else (batonlaw03_SnappyDecodes.j1 kj2 a0 true)) = some r := H
    have A11 := Aside0.mk A110
    clear A110
    have HC12 := Aside0.mk H
    clear H
    go_upto_region 7 with (first|((with_reducible refine gate_callee (f := 27) rfl ?_);refine goesL_ (some 29) rfl rfl Try.func27 q9_ rfl #[.string a0] rfl q0_ ?_;(with_reducible refine (snappy_Size.calls kj2 a0 t544 t545 _ A8.out).mono ?_);rintro e w' ⟨rfl,⟨nd,rfl⟩⟩;refine ⟨_,rfl,?_⟩)|((with_reducible refine gate_callee (f := 28) rfl ?_);refine goesL_ (some 34) rfl rfl Try.func28 q9_ rfl #[.string a0] rfl q0_ ?_;(with_reducible refine (batonref03_Size.calls kj2 a0 t546 t547 _ A9.out).mono ?_);rintro e w' ⟨rfl,⟨nd,rfl⟩⟩;refine ⟨_,rfl,?_⟩)|((with_reducible refine gate_callee (f := 13) rfl ?_);refine goesL_ (some 40) rfl rfl Try.func13 q9_ rfl #[.string a0,.int .i64 a1] rfl q0_ ?_;(with_reducible refine (snappy_Decode.calls kj2 a0 a1 t548 t549 _ A10.out).mono ?_);rintro e w13 ⟨rfl,hb⟩;refine ⟨_,rfl,?_⟩;have n0_ := Aside0.mk (below_step (bl_) hb);clear HB;have HB := n0_;clear n0_;(try clear hb);(try clear hb2);(try clear hk);(try clear hi))|((with_reducible refine gate_callee (f := 29) rfl ?_);refine goesL_ (some 46) rfl rfl Try.func29 q9_ rfl #[.string a0,.int .i64 a1] rfl q0_ ?_;(with_reducible refine (batonref03_Decode.calls kj2 a0 a1 t550 t551 _ A11.out).mono ?_);rintro e w14 ⟨rfl,hb⟩;refine ⟨_,rfl,?_⟩;have n0_ := Aside0.mk (below_step (bl_) hb);clear HB;have HB := n0_;clear n0_;(try clear hb);(try clear hb2);(try clear hk);(try clear hi)))
    (try simp only [Act.put,List.setIfInBounds_toArray,List.set_cons_zero,List.set_cons_succ])
    go_cut [66] (fun v66 wc=>∃ (kq : Nat) (x66_11 : Bool),v66 = .bool x66_11 ∧ Aside0 (batonlaw03_SnappyDecodes.j1 kq a0 x66_11 = some r) ∧ Aside0 (kq ≤ kj2) ∧ Aside0 (Below w.heap.size w wc))
    case first =>
     have H := HC12.out
     clear HC12
     by_cases c15 : t544 = t546
     ·rw [if_pos c15] at H
      have c15b0 : (t544 == t546) = true := beq_iff_eq.mpr c15
      have c15b1 : (t544 != t546) = false := bne_eq_false_iff_eq.mpr c15
      clear c15
      (first|rw [c15b0]|(simp only [i64_w,i32_w];rw [c15b0])|skip)
      by_cases c16 : t545 = t547
      ·rw [if_pos c16] at H
       have c16b0 : (t545 == t547) = true := beq_iff_eq.mpr c16
       have c16b1 : (t545 != t547) = false := bne_eq_false_iff_eq.mpr c16
       clear c16
       by_cases c17 : t548.toList = t550.toList
       ·rw [if_pos c17] at H
        have c17b0 : (t548.toList == t550.toList) = true := beq_iff_eq.mpr c17
        have c17b1 : (t548.toList != t550.toList) = false := bne_eq_false_iff_eq.mpr c17
        clear c17
        have H' := Aside0.mk H
        clear H
        go_wp2
        go_meet
        case rel=>exact ⟨_,((t549 != t551)),q4_,H',⟨q98_⟩,⟨bl_⟩⟩
       ·rw [if_neg c17] at H
        have c17b0 : (t548.toList == t550.toList) = false := beq_eq_false_iff_ne.mpr c17
        have c17b1 : (t548.toList != t550.toList) = true := bne_iff_ne.mpr c17
        have H' := Aside0.mk H
        clear H
        go_wp2
        go_meet
        case rel=>exact ⟨_,(true),q4_,H',⟨q98_⟩,⟨bl_⟩⟩
      ·rw [if_neg c16] at H
       have c16b0 : (t545 == t547) = false := beq_eq_false_iff_ne.mpr c16
       have c16b1 : (t545 != t547) = true := bne_iff_ne.mpr c16
       have H' := Aside0.mk H
       clear H
       go_wp2
       go_meet
       case rel=>exact ⟨_,(true),q4_,H',⟨q98_⟩,⟨bl_⟩⟩
     ·rw [if_neg c15] at H
      have c15b0 : (t544 == t546) = false := beq_eq_false_iff_ne.mpr c15
      have c15b1 : (t544 != t546) = true := bne_iff_ne.mpr c15
      (first|rw [c15b0]|(simp only [i64_w,i32_w];rw [c15b0])|skip)
      have H' := Aside0.mk H
      clear H
      go_wp2
      go_meet
      case rel=>exact ⟨_,(true),q4_,H',⟨q98_⟩,⟨bl_⟩⟩
    case rest =>
     clear HC12
     try clear c1
     try clear c2
     try clear p2
     try clear c4
     try clear c4b0
     try clear c4b1
     try clear c5
     try clear c10
     try clear c12
     try clear c13
     try clear c15
     try clear c15b0
     try clear c15b1
     try clear c16
     try clear c16b0
     try clear c16b1
     try clear c17
     try clear c17b0
     try clear c17b1
     try clear p2
     obtain ⟨kq,x66_11,rfl,HA,HJ11,HB⟩ := hcut
     cases kq with
     | zero=>exact absurd HA.out (by simp [batonlaw03_SnappyDecodes.j1])
     | succ kj11 =>
      have H := HA.out
      clear HA
      simp only [batonlaw03_SnappyDecodes.j1] at H
      by_cases c18 : x66_11 = true
      ·subst c18
       have H1 : (some false) = some r := by rw [if_pos rfl] at H;exact H
       clear H
       have H := H1
       clear H1
       obtain rfl := Option.some.inj H
       go_wp2
       go_ret
       exact ⟨q1_,bl_⟩
      ·replace c18 := Bool.eq_false_iff.mpr c18
       subst c18
       have H1 : (batonlaw03_SnappyDecodes.l0 kj11 a0 0) = some r := by rw [if_neg (show ¬ (false = true) by decide)] at H;exact H
       clear H
       have H := H1
       clear H1
       have H' := Aside0.mk H
       clear H
       go_wp2
       go_loopg [13] kj11 (fun kq v13 w'=>∃ (x13_3 : Int),v13 = .int .i64 x13_3 ∧ Aside0 (batonlaw03_SnappyDecodes.l0 kq a0 x13_3 = some r) ∧ Aside0 (kq ≤ kj11) ∧ Aside0 (Below w.heap.size w w'))
       case atStart=>exact ⟨(0),q4_,H',⟨Nat.le_refl _⟩,⟨bl_⟩⟩
       case round =>
        clear H'
        try clear c1
        try clear c2
        try clear p2
        try clear c4
        try clear c4b0
        try clear c4b1
        try clear c5
        try clear c10
        try clear c12
        try clear c13
        try clear c15
        try clear c15b0
        try clear c15b1
        try clear c16
        try clear c16b0
        try clear c16b1
        try clear c17
        try clear c17b0
        try clear c17b1
        try clear c18
        try clear p2
        obtain ⟨x13_3,rfl,HA,HK3,HB⟩ := hrel
        cases gk with
        | zero=>exact absurd HA.out (by simp [batonlaw03_SnappyDecodes.l0])
        | succ k3 =>
         have H := HA.out
         clear HA
         simp only [batonlaw03_SnappyDecodes.l0] at H
         by_cases c19 : x13_3 < 2
         ·rw [if_pos c19] at H
          have c19b0 : decide (x13_3 < 2) = true := decide_eq_true c19
          clear c19
          replace H := Option.bind_eq_some_iff.mp H
          obtain ⟨⟨t553,t554⟩,A200,H⟩ := H
          replace H : ((batonref03_Parts.f k3 a0).bind fun bt557=>(if t554 = bt557.2 then ((batonlaw03_same.f k3 t553 bt557.1).bind fun t561=>(batonlaw03_SnappyDecodes.j3 k3 a0 x13_3 t553 (!t561))) else (batonlaw03_SnappyDecodes.j3 k3 a0 x13_3 t553 true))) = some r := H
          have A20 := Aside0.mk A200
          clear A200
          replace H := Option.bind_eq_some_iff.mp H
          obtain ⟨⟨t557,t558⟩,A210,H⟩ := H
          replace H : (if t554 = t558 then ((batonlaw03_same.f k3 t553 t557).bind fun t561=>(batonlaw03_SnappyDecodes.j3 k3 a0 x13_3 t553 (!t561))) else (batonlaw03_SnappyDecodes.j3 k3 a0 x13_3 t553 true)) = some r := H
          have A21 := Aside0.mk A210
          clear A210
          have HC22 := Aside0.mk H
          clear H
          go_upto_region 14 with (first|((with_reducible refine gate_callee (f := 30) rfl ?_);refine goesL_ (some 73) rfl rfl Try.func30 q9_ rfl #[.string a0] rfl q0_ ?_;(with_reducible refine (snappy_Parts.calls k3 a0 t553 t554 _ A20.out).mono ?_);rintro e w23 ⟨v555,rfl,ho0,hb⟩;refine ⟨_,rfl,?_⟩;have n0_ := Aside0.mk (Kd.R_lower ho0 (below_size (bl_)));have n1_ := Aside0.mk (below_step (bl_) hb);clear HB;have HO556 := n0_;have HB := n1_;clear n0_ n1_;(try clear hb);(try clear hb2);(try clear hk);(try clear hi);(try clear ho0))|((with_reducible refine gate_callee (f := 31) rfl ?_);refine goesL_ (some 78) rfl rfl Try.func31 q9_ rfl #[.string a0] rfl q0_ ?_;(with_reducible refine (batonref03_Parts.calls k3 a0 t557 t558 _ A21.out).mono ?_);rintro e w24 ⟨v559,rfl,ho0,hb⟩;refine ⟨_,rfl,?_⟩;have n0_ := Aside0.mk (Kd.R_below q104_ hb);have n1_ := Aside0.mk (Kd.R_lower ho0 (below_size (bl_)));have n2_ := Aside0.mk (below_step (bl_) hb);clear HO556;clear HB;have HO556 := n0_;have HO560 := n1_;have HB := n2_;clear n0_ n1_ n2_;(try clear hb);(try clear hb2);(try clear hk);(try clear hi);(try clear ho0)))
          (try simp only [Act.put,List.setIfInBounds_toArray,List.set_cons_zero,List.set_cons_succ])
          go_cut [89] (fun v89 wc=>∃ (kq : Nat) (x89_21 : Bool),v89 = .bool x89_21 ∧ Aside0 (batonlaw03_SnappyDecodes.j3 kq a0 x13_3 t553 x89_21 = some r) ∧ Aside0 (kq ≤ k3) ∧ Aside0 (Kd.R k35 35 wc w.heap.size (fun _=>True) v555 t553) ∧ Aside0 (Below w.heap.size w wc))
          case first =>
           have H := HC22.out
           clear HC22
           by_cases c25 : t554 = t558
           ·rw [if_pos c25] at H
            have c25b0 : (t554 == t558) = true := beq_iff_eq.mpr c25
            have c25b1 : (t554 != t558) = false := bne_eq_false_iff_eq.mpr c25
            clear c25
            (first|rw [c25b0]|(simp only [i64_w,i32_w];rw [c25b0])|skip)
            replace H := Option.bind_eq_some_iff.mp H
            obtain ⟨t561,A260,H⟩ := H
            replace H : (batonlaw03_SnappyDecodes.j3 k3 a0 x13_3 t553 (!t561)) = some r := H
            have A26 := Aside0.mk A260
            clear A260
            have H' := Aside0.mk H
            clear H
            obtain ⟨Ao27,co27,eo27⟩ := Kd.R_slice HO556.out
            subst eo27
            obtain ⟨Ao28,co28,eo28⟩ := Kd.R_slice HO560.out
            subst eo28
            go_wp2_with (first|(go_at_call 23;(with_reducible refine (batonlaw03_same.calls k3 _ _ t553 _ _ t557 t561 _ ?side1 ?side2 ?side3 ?side4 A26.out).mono ?_);(case side1=>repeat (first|exact (Kd.R_reads' HO556.out).2.2|(with_reducible refine Kd.C_alloc ?_ _)|(with_reducible refine Kd.C_drewN ?_ _)|(with_reducible refine Kd.C_drew ?_)));(case side2=>exact (Kd.R_reads' HO556.out).2.1);(case side3=>repeat (first|exact (Kd.R_reads' HO560.out).2.2|(with_reducible refine Kd.C_alloc ?_ _)|(with_reducible refine Kd.C_drewN ?_ _)|(with_reducible refine Kd.C_drew ?_)));(case side4=>exact (Kd.R_reads' HO560.out).2.1);rintro e w' ⟨rfl,⟨nd,rfl⟩⟩))
            go_meet
            case rel=>exact ⟨_,(!t561),q4_,H',⟨by have := HJ2.out;have := HJ11.out;have := HK3.out;first|omega|exact Nat.le_refl _⟩,⟨q104_⟩,⟨bl_⟩⟩
           ·rw [if_neg c25] at H
            have c25b0 : (t554 == t558) = false := beq_eq_false_iff_ne.mpr c25
            have c25b1 : (t554 != t558) = true := bne_iff_ne.mpr c25
            (first|rw [c25b0]|(simp only [i64_w,i32_w];rw [c25b0])|skip)
            have H' := Aside0.mk H
            clear H
            go_wp2
            go_meet
            case rel=>exact ⟨_,(true),q4_,H',⟨by have := HJ2.out;have := HJ11.out;have := HK3.out;first|omega|exact Nat.le_refl _⟩,⟨q104_⟩,⟨bl_⟩⟩
          case rest =>
           clear HC22
           try clear c1
           try clear c2
           try clear p2
           try clear c3
           try clear c4
           try clear c4b0
           try clear c4b1
           try clear c5
           try clear c10
           try clear c12
           try clear c13
           try clear c15
           try clear c15b0
           try clear c15b1
           try clear c16
           try clear c16b0
           try clear c16b1
           try clear c17
           try clear c17b0
           try clear c17b1
           try clear c18
           try clear c19
           try clear c19b0
           try clear c25
           try clear c25b0
           try clear c25b1
           try clear c27
           try clear c28
           try clear p2
           obtain ⟨kq,x89_21,rfl,HA,HJ21,HO_14,HB⟩ := hcut
           cases kq with
           | zero=>exact absurd HA.out (by simp [batonlaw03_SnappyDecodes.j3])
           | succ kj21 =>
            have H := HA.out
            clear HA
            simp only [batonlaw03_SnappyDecodes.j3] at H
            by_cases c29 : x89_21 = true
            ·subst c29
             have H1 : (some false) = some r := by rw [if_pos rfl] at H;exact H
             clear H
             have H := H1
             clear H1
             obtain rfl := Option.some.inj H
             go_wp2
             go_ret
             exact ⟨q1_,bl_⟩
            ·replace c29 := Bool.eq_false_iff.mpr c29
             subst c29
             have H1 : (batonlaw03_SnappyDecodes.l1 kj21 a0 x13_3 t553 0) = some r := by rw [if_neg (show ¬ (false = true) by decide)] at H;exact H
             clear H
             have H := H1
             clear H1
             have H' := Aside0.mk H
             clear H
             go_wp2
             go_loopg [18] kj21 (fun kq v18 w'=>∃ (x14_5 : List (S35)) (x18_5 : Int),v18 = .int .i64 x18_5 ∧ Aside0 (batonlaw03_SnappyDecodes.l1 kq a0 x13_3 x14_5 x18_5 = some r) ∧ Aside0 (kq ≤ kj21) ∧ Aside0 (Kd.R k35 35 w' w.heap.size (fun _=>True) v555 x14_5) ∧ Aside0 (Below w.heap.size w w'))
             case atStart=>exact ⟨(t553),(0),q4_,H',⟨Nat.le_refl _⟩,⟨q105_⟩,⟨bl_⟩⟩
             case round =>
              clear H'
              try clear c1
              try clear c2
              try clear p2
              try clear c3
              try clear c4
              try clear c4b0
              try clear c4b1
              try clear c5
              try clear c10
              try clear c12
              try clear c13
              try clear c15
              try clear c15b0
              try clear c15b1
              try clear c16
              try clear c16b0
              try clear c16b1
              try clear c17
              try clear c17b0
              try clear c17b1
              try clear c18
              try clear c19
              try clear c19b0
              try clear c25
              try clear c25b0
              try clear c25b1
              try clear c27
              try clear c28
              try clear c29
              try clear p2
              obtain ⟨x14_5,x18_5,rfl,HA,HK5,HO_14,HB⟩ := hrel
              cases gk with
              | zero=>exact absurd HA.out (by simp [batonlaw03_SnappyDecodes.l1])
              | succ k5 =>
               have H := HA.out
               clear HA
               simp only [batonlaw03_SnappyDecodes.l1] at H
               by_cases c30 : x18_5 < (x14_5.length : Int)
               ·rw [if_pos c30] at H
                have c30b0 : decide (x18_5 < (x14_5.length : Int)) = true := decide_eq_true c30
                clear c30
                by_cases c31 : 0 ≤ x18_5
                ·rw [if_pos c31] at H
                 have c31b0 : decide (0 ≤ x18_5) = true := decide_eq_true c31
                 clear c31
                 obtain ⟨y562,hy562⟩ : ∃ y_ : List (S35),y_ = (x14_5.set (x18_5 : Int).toNat (⟨false,(⟨#[]⟩ : ByteArray),(-7),0⟩ : S35)) := ⟨_,rfl⟩
                 replace H : (batonlaw03_SnappyDecodes.l1 k5 a0 x13_3 y562 (wrap64 (x18_5 + 1))) = some r := by first|(rw [hy562];with_reducible exact H)|(have H2_ := (Option.bind_some _ _).symm.trans H;rw [hy562];with_reducible exact H2_)|(have H2_ := (Option.bind_some _ _).symm.trans H;with_reducible exact H2_)|with_reducible exact H|(rw [hy562];exact H)|exact H
                 have Ny562 := Aside0.mk hy562
                 clear hy562
                 have H' := Aside0.mk H
                 clear H
                 obtain ⟨Ao33,co33,eo33⟩ := Kd.R_slice HO_14.out
                 subst eo33
                 have p32 : 0 ≤ (x18_5 : Int) := of_decide_eq_true q3_
                 have q32 : (x18_5 : Int) < ((x14_5.length : Int) : Int) := of_decide_eq_true q3_
                 obtain ⟨go32,co32,eo32,gb32,gl32,cl32,HG32⟩ := Kd.R_form HO_14.out q75_
                 (first|cases eo32|(injection eo32 with ea_ en_ ec_;(first|subst ea_|(injection ea_ with ea_;subst ea_));subst ec_;clear en_))
                 have GB32 := Aside0.mk gb32
                 have GG32 := Aside0.mk HG32
                 clear gb32 gl32 HG32
                 obtain ⟨ce32,hcl32,hM32,hcc32,hfr32⟩ := Kd.R_elem HO_14.out z35 (x18_5 : Int) p32 q32
                 obtain rfl := k35_openM hM32
                 have hx32_0 : wr.cell? ⟨go32,(x18_5 : Int).toNat * 4,none⟩ = some (.bool ((rd_T35 x14_5 x18_5).f0)) := hcc32 0 _ rfl
                 have hx32_1 : wr.cell? ⟨go32,(x18_5 : Int).toNat * 4 + 1,none⟩ = some (.string ((rd_T35 x14_5 x18_5).f1)) := hcc32 1 _ rfl
                 have hx32_2 : wr.cell? ⟨go32,(x18_5 : Int).toNat * 4 + 2,none⟩ = some (.int .i64 ((rd_T35 x14_5 x18_5).f2)) := hcc32 2 _ rfl
                 have hx32_3 : wr.cell? ⟨go32,(x18_5 : Int).toNat * 4 + 3,none⟩ = some (.int .i64 ((rd_T35 x14_5 x18_5).f3)) := hcc32 3 _ rfl
                 have hf32_0 : wr.frozen? ⟨go32,(x18_5 : Int).toNat * 4,none⟩ = false := hfr32 0
                 have hf32_1 : wr.frozen? ⟨go32,(x18_5 : Int).toNat * 4 + 1,none⟩ = false := hfr32 1
                 have hf32_2 : wr.frozen? ⟨go32,(x18_5 : Int).toNat * 4 + 2,none⟩ = false := hfr32 2
                 have hf32_3 : wr.frozen? ⟨go32,(x18_5 : Int).toNat * 4 + 3,none⟩ = false := hfr32 3
                 clear hcl32 hcc32 hfr32 hM32
                 replace p32 := eq_true p32
                 replace q32 := eq_true q32
                 have HX34 := Aside0.mk (show Kd.R k35 35 wr w.heap.size (fun _=>True) (.slice (some ⟨go32,0,none⟩) x14_5.length co33) x14_5 from q105_)
                 obtain ⟨ce34,hcl34,hM34,hcc34,hfr34⟩ := Kd.R_elem HX34.out z35 (x18_5 : Int) (of_decide_eq_true q3_) (by have h_ : (x18_5 : Int) < ((x14_5.length : Int) : Int) := of_decide_eq_true q3_;first|exact h_|(have e_ := (Kd.R_reads' HO_14.out).1;omega)|simpa using h_)
                 obtain rfl := k35_openM hM34
                 have HP34 := Kd.R_seg HX34.out (x18_5 : Int) (of_decide_eq_true q3_) (by have h_ : (x18_5 : Int) < ((x14_5.length : Int) : Int) := of_decide_eq_true q3_;first|exact h_|(have e_ := (Kd.R_reads' HO_14.out).1;omega)|simpa using h_) (seg := [.bool false,.string (⟨#[]⟩ : ByteArray),.int .i64 (-7),.int .i64 0]) (j := 0) hcl34 hcc34 (show 4 ≤ 4 from by decide) (x' := (⟨false,(⟨#[]⟩ : ByteArray),(-7),0⟩ : S35)) (k35_mkM _ _ _ (⟨false,(⟨#[]⟩ : ByteArray),(-7),0⟩ : S35) ) (fun _ hk=>hk)
                 have hx34_0 := hcc34 0 _ rfl
                 (try simp only [show (k35).sz = 4 from rfl,Nat.mul_one,Nat.add_zero] at hx34_0)
                 have hf34_0 := hfr34 0
                 (try simp only [show (k35).sz = 4 from rfl,Nat.mul_one,Nat.add_zero] at hf34_0)
                 have hx34_1 := hcc34 1 _ rfl
                 (try simp only [show (k35).sz = 4 from rfl,Nat.mul_one,Nat.add_zero] at hx34_1)
                 have hf34_1 := hfr34 1
                 (try simp only [show (k35).sz = 4 from rfl,Nat.mul_one,Nat.add_zero] at hf34_1)
                 have hx34_2 := hcc34 2 _ rfl
                 (try simp only [show (k35).sz = 4 from rfl,Nat.mul_one,Nat.add_zero] at hx34_2)
                 have hf34_2 := hfr34 2
                 (try simp only [show (k35).sz = 4 from rfl,Nat.mul_one,Nat.add_zero] at hf34_2)
                 have hx34_3 := hcc34 3 _ rfl
                 (try simp only [show (k35).sz = 4 from rfl,Nat.mul_one,Nat.add_zero] at hx34_3)
                 have hf34_3 := hfr34 3
                 (try simp only [show (k35).sz = 4 from rfl,Nat.mul_one,Nat.add_zero] at hf34_3)
                 clear hcl34 hcc34 hfr34 hM34
                 go_wp2_with (first|((with_reducible refine gate_store (t := 35) (p := 99) rfl ?_);refine store_event (t := 35) (p := 99) (v := ?vo_w35) (w1 := ((((wr.setCell ⟨go32,(x18_5 : Int).toNat * 4,none⟩ (.bool false)).setCell ⟨go32,(x18_5 : Int).toNat * 4 + 1,none⟩ (.string (⟨#[]⟩ : ByteArray))).setCell ⟨go32,(x18_5 : Int).toNat * 4 + 2,none⟩ (.int .i64 (-7))).setCell ⟨go32,(x18_5 : Int).toNat * 4 + 3,none⟩ (.int .i64 0))) ?hg ?ho ?hn ?hr ?_;(case ho=>rfl);(case hg=>rfl);(case hn=>rfl);(case hr=>first|(go_simp;done)|(go_simp;rfl)|(go_simp;simp [my_u8w];done));intro w35 hw;have hg : wr.grownBy w35 (some go32) := (by rw [hw];exact HP34.2);have hp_ : Kd.R k35 35 w35 w.heap.size (fun _=>True) (.slice (some ⟨go32,0,none⟩) x14_5.length co33) y562 := (by rw [hw,Ny562.out];exact HP34.1);clear HP34;have n0_ := Aside0.mk (hp_);have n1_ := Aside0.mk ((by rw [hw];exact below_set (below_set (below_set (below_set (HB.out) GB32.out) GB32.out) GB32.out) GB32.out : Below w.heap.size w w35));clear HO_14;clear HB;have HO_14 := n0_;have HB := n1_;clear n0_ n1_;clear hg hw hp_))
                 go_roundg k5
                 case measure=>have := HJ2.out;have := HJ11.out;have := HK3.out;have := HJ21.out;have := HK5.out;omega
                 case rel=>exact ⟨(y562),(wrap64 (x18_5 + 1)),q4_,H',⟨by have := HJ2.out;have := HJ11.out;have := HK3.out;have := HJ21.out;have := HK5.out;omega⟩,⟨q105_⟩,⟨bl_⟩⟩
                ·rw [if_neg c31] at H
                 exact absurd H (by simp)
               ·rw [if_neg c30] at H
                have c30b0 : decide (x18_5 < (x14_5.length : Int)) = false := decide_eq_false c30
                clear c30
                have H' := Aside0.mk H
                clear H
                obtain ⟨Ao36,co36,eo36⟩ := Kd.R_slice HO_14.out
                subst eo36
                go_wp2
                go_roundg k5
                case measure=>have := HJ2.out;have := HJ11.out;have := HK3.out;have := HJ21.out;have := HK5.out;omega
                case rel=>exact ⟨(wrap64 (x13_3 + 1)),q4_,H',⟨by have := HJ2.out;have := HJ11.out;have := HK3.out;have := HJ21.out;have := HK5.out;omega⟩,⟨bl_⟩⟩
         ·rw [if_neg c19] at H
          have c19b0 : decide (x13_3 < 2) = false := decide_eq_false c19
          clear c19
          replace H := Option.bind_eq_some_iff.mp H
          obtain ⟨t552,A370,H⟩ := H
          replace H : (some t552) = some r := H
          have A37 := Aside0.mk A370
          clear A370
          obtain rfl := Option.some.inj H
          go_wp2_with (first|((with_reducible refine gate_callee (f := 12) rfl ?_);refine goesL_ (some 100) rfl rfl Try.func12 q9_ rfl #[] rfl q0_ ?_;(with_reducible refine (batonlaw03_awake.calls k3  t552 _ A37.out).mono ?_);rintro e w38 ⟨rfl,hb⟩;refine ⟨_,rfl,?_⟩;have n0_ := Aside0.mk (below_step (bl_) hb);clear HB;have HB := n0_;clear n0_;(try clear hb);(try clear hb2);(try clear hk);(try clear hi)))
          go_ret
          exact ⟨q1_,bl_⟩

/-- THE ONE PURE STATEMENT of batonlaw03_SnappyDecodes: yours. -/
def batonlaw03_SnappyDecodes.Pure : Prop := ∀ (a0 : ByteArray) (a1 : Int), a0.size ≤ 140737488351232 → (Lit.int .i64 a1).wf = true → ∃ k, batonlaw03_SnappyDecodes.f k a0 a1 = some true
theorem batonlaw03_SnappyDecodes.walk (P : batonlaw03_SnappyDecodes.Pure) (a0 : ByteArray) (a1 : Int) (w : World) (w0 : a0.size ≤ 140737488351232) (w1 : (Lit.int .i64 a1).wf = true) :
  Calls Try.prog 10 #[.string a0,.int .i64 a1] w fun e w'=>e = .returned (.bool true) ∧ Below w.heap.size w w' := by
 obtain ⟨k,h⟩ := P a0 a1 w0 w1
 refine (batonlaw03_SnappyDecodes.calls k a0 a1 true w h).mono ?_
 rintro e w' ⟨rfl,hd⟩
 exact ⟨rfl,hd⟩

end Go.Proofs.Ythcjcmgdblhhfaa.PV

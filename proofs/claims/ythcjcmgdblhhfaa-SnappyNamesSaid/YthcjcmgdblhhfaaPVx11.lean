/- The machine side of these statements: what each Go function computes as a plain function, and that its call computes just that. Written by a program of mine (wip/drive.py). No conditions. -/
import Derived.Test.YthcjcmgdblhhfaaPVx0
namespace Go.Proofs.Ythcjcmgdblhhfaa.PV
open Go.RowKit Go.Proofs.YthcjcmgdblhhfaaW.PrintWords Go.Proofs.YthcjcmgdblhhfaaW.PrintLast Go.Proofs.YthcjcmgdblhhfaaW.PrintMore
attribute [local go_sem] max2_int min2_int max_two min_two max_three min_three max_four min_four   -- for this text's walks alone
set_option linter.unusedVariables false
set_option linter.unusedSimpArgs false

/-! ### snappy_alike: function 43 -/
def snappy_alike.l0 : Nat → ByteArray → Int → Int → Int → Option (Int)
 | 0,_,_,_,_=>none
 | k + 1,x0,x1,x2,x7=>if x7 < 64 then (if (wrap64 (x2 + x7)) < (x0.size : Int) then (if 0 ≤ (wrap64 (x1 + x7)) then (if (wrap64 (x1 + x7)) < (x0.size : Int) then (if 0 ≤ (wrap64 (x2 + x7)) then (if (bt x0 (wrap64 (x1 + x7))) = (bt x0 (wrap64 (x2 + x7))) then (snappy_alike.l0 k x0 x1 x2 (wrap64 (x7 + 1))) else (some x7)) else (none)) else (none)) else (none)) else (some x7)) else (some x7)
def snappy_alike.f (k : Nat) (a0 : ByteArray) (a1 : Int) (a2 : Int) : Option (Int) := snappy_alike.l0 k a0 a1 a2 0
theorem snappy_alike.mono_l : ∀ k, (∀ y0 y1 y2 y3, LeO (snappy_alike.l0 k y0 y1 y2 y3) (snappy_alike.l0 (k + 1) y0 y1 y2 y3))
 | 0=>fun _ _ _ _ r h=>by simp [snappy_alike.l0] at h
 | k + 1=>by
  have ih0 := snappy_alike.mono_l k
  ·intro y0 y1 y2 y3
   unfold snappy_alike.l0
   repeat' first
   | (with_reducible exact ih0 _ _ _ _)
   | (with_reducible exact LeO.refl _)
   | (with_reducible exact LeO.none _)
   | (with_reducible refine LeO.ite ?_ ?_)
   | (with_reducible refine LeO.bind ?_ (fun _=>?_))
   | exact ih0 _ _ _ _
   | exact LeO.none _
   | refine LeO.ite ?_ ?_
   | refine LeO.bind ?_ (fun _=>?_)
theorem snappy_alike.mono : ∀ a0 a1 a2 k, LeO (snappy_alike.f k a0 a1 a2) (snappy_alike.f (k + 1) a0 a1 a2) := by
 intro a0 a1 a2 k
 have ih0 := snappy_alike.mono_l k
 unfold snappy_alike.f
 repeat' first
   | (with_reducible exact ih0 _ _ _ _)
   | (with_reducible exact LeO.refl _)
   | (with_reducible exact LeO.none _)
   | (with_reducible refine LeO.ite ?_ ?_)
   | (with_reducible refine LeO.bind ?_ (fun _=>?_))
   | exact ih0 _ _ _ _
   | exact LeO.none _
   | refine LeO.ite ?_ ?_
   | refine LeO.bind ?_ (fun _=>?_)
set_option maxHeartbeats 8000000 in
set_option maxRecDepth 100000 in
theorem snappy_alike.calls (k : Nat) (a0 : ByteArray) (a1 : Int) (a2 : Int) (r : Int) (w : World) (h : snappy_alike.f k a0 a1 a2 = some r) :
  Calls Try.prog 43 #[.string a0,.int .i64 a1,.int .i64 a2] w fun e w'=>e = .returned (.int .i64 r) ∧ Drawn0 w w' := by
 have H : (snappy_alike.l0 k a0 a1 a2 0) = some r := h
 clear h
 have H' := Aside0.mk H
 clear H
 go_enter Try.func43,Try.ntmps43
 go_wp2
 repeat (go_quiet (fail);try go_wp2)
 go_loopg [7] k (fun kq v7 w'=>∃ (x7_1 : Int),v7 = .int .i64 x7_1 ∧ Aside0 (snappy_alike.l0 kq a0 a1 a2 x7_1 = some r) ∧ Aside0 (kq ≤ k) ∧ Drawn0 w w')
 case atStart=>exact ⟨(0),q4_,H',⟨Nat.le_refl _⟩,q18_⟩
 case round =>
  clear H'
  try clear p2
  obtain ⟨x7_1,rfl,HA,HK1,⟨m1,rfl⟩⟩ := hrel
  cases gk with
  | zero=>exact absurd HA.out (by simp [snappy_alike.l0])
  | succ k1 =>
   have H := HA.out
   clear HA
   simp only [snappy_alike.l0] at H
   by_cases c4 : x7_1 < 64
   ·rw [if_pos c4] at H
    have c4b0 : decide (x7_1 < 64) = true := decide_eq_true c4
    clear c4
    by_cases c5 : (wrap64 (a2 + x7_1)) < (a0.size : Int)
    ·rw [if_pos c5] at H
     have c5b0 : decide ((wrap64 (a2 + x7_1)) < (a0.size : Int)) = true := decide_eq_true c5
     clear c5
     obtain ⟨ji6,hji6⟩ : ∃ j_ : Int,(wrap64 (a1 + x7_1)) = j_ := ⟨_,rfl⟩
     replace H : (if 0 ≤ (ji6) then (if (ji6) < (a0.size : Int) then (if 0 ≤ (wrap64 (a2 + x7_1)) then (if (bt a0 (ji6)) = (bt a0 (wrap64 (a2 + x7_1))) then (snappy_alike.l0 k1 a0 a1 a2 (wrap64 (x7_1 + 1))) else (some x7_1)) else (none)) else (none)) else (none)) = some r := by first|(rw [hji6] at H;exact H)|(simp only [hji6] at H ⊢;exact H)
     have hji6w : (IntKind.i64.wrap (a1 + x7_1)) = ji6 := (i64_w _).trans hji6
     by_cases c7 : 0 ≤ (ji6)
     ·rw [if_pos c7] at H
      have c7b0 : decide (0 ≤ (ji6)) = true := decide_eq_true c7
      clear c7
      by_cases c8 : (ji6) < (a0.size : Int)
      ·rw [if_pos c8] at H
       have c8b0 : decide ((ji6) < (a0.size : Int)) = true := decide_eq_true c8
       clear c8
       obtain ⟨ji10,hji10⟩ : ∃ j_ : Int,(wrap64 (a2 + x7_1)) = j_ := ⟨_,rfl⟩
       replace H : (if 0 ≤ (ji10) then (if (bt a0 (ji6)) = (bt a0 (ji10)) then (snappy_alike.l0 k1 a0 a1 a2 (wrap64 (x7_1 + 1))) else (some x7_1)) else (none)) = some r := by first|(rw [hji10] at H;exact H)|(simp only [hji10] at H ⊢;exact H)
       (try rw [hji10] at c5b0)
       have hji10w : (IntKind.i64.wrap (a2 + x7_1)) = ji10 := (i64_w _).trans hji10
       by_cases c11 : 0 ≤ (ji10)
       ·rw [if_pos c11] at H
        have c11b0 : decide (0 ≤ (ji10)) = true := decide_eq_true c11
        clear c11
        by_cases c13 : (bt a0 (ji6)) = (bt a0 (ji10))
        ·rw [if_pos c13] at H
         have c13b0 : ((bt a0 (ji6)) == (bt a0 (ji10))) = true := beq_iff_eq.mpr c13
         have c13b1 : ((bt a0 (ji6)) != (bt a0 (ji10))) = false := bne_eq_false_iff_eq.mpr c13
         clear c13
         have H' := Aside0.mk H
         clear H
         have p9 : 0 ≤ ((ji6) : Int) := of_decide_eq_true q3_
         have q9 : (ji6) < (a0.size : Int) := of_decide_eq_true q3_
         have hx9 := bt_at a0 (ji6)
         replace p9 := eq_true p9
         replace q9 := eq_true q9
         have p12 : 0 ≤ ((ji10) : Int) := of_decide_eq_true q3_
         have q12 : (ji10) < (a0.size : Int) := of_decide_eq_true q3_
         have hx12 := bt_at a0 (ji10)
         replace p12 := eq_true p12
         replace q12 := eq_true q12
         go_wp2
         repeat (go_quiet (fail);try go_wp2)
         go_roundg k1
         case measure=>have := HK1.out;omega
         case rel=>exact ⟨(wrap64 (x7_1 + 1)),q4_,H',⟨q85_⟩,q18_⟩
        ·rw [if_neg c13] at H
         have c13b0 : ((bt a0 (ji6)) == (bt a0 (ji10))) = false := beq_eq_false_iff_ne.mpr c13
         have c13b1 : ((bt a0 (ji6)) != (bt a0 (ji10))) = true := bne_iff_ne.mpr c13
         obtain rfl := Option.some.inj H
         have p9 : 0 ≤ ((ji6) : Int) := of_decide_eq_true q3_
         have q9 : (ji6) < (a0.size : Int) := of_decide_eq_true q3_
         have hx9 := bt_at a0 (ji6)
         replace p9 := eq_true p9
         replace q9 := eq_true q9
         have p12 : 0 ≤ ((ji10) : Int) := of_decide_eq_true q3_
         have q12 : (ji10) < (a0.size : Int) := of_decide_eq_true q3_
         have hx12 := bt_at a0 (ji10)
         replace p12 := eq_true p12
         replace q12 := eq_true q12
         go_wp2
         repeat (go_quiet (fail);try go_wp2)
         go_ret
         exact ⟨by first|rfl|(simp;done)|(simp only [← hji6,← hji10] <;> (first|rfl|simp))|(simp [*];done),q18_⟩
       ·rw [if_neg c11] at H
        exact absurd H (by simp)
      ·rw [if_neg c8] at H
       exact absurd H (by simp)
     ·rw [if_neg c7] at H
      exact absurd H (by simp)
    ·rw [if_neg c5] at H
     have c5b0 : decide ((wrap64 (a2 + x7_1)) < (a0.size : Int)) = false := decide_eq_false c5
     clear c5
     obtain rfl := Option.some.inj H
     go_wp2
     repeat (go_quiet (fail);try go_wp2)
     go_ret
     exact ⟨q4_,q18_⟩
   ·rw [if_neg c4] at H
    have c4b0 : decide (x7_1 < 64) = false := decide_eq_false c4
    clear c4
    obtain rfl := Option.some.inj H
    go_wp2
    repeat (go_quiet (fail);try go_wp2)
    go_ret
    exact ⟨q4_,q18_⟩

/-! ### snappy_Match: function 18 -/
mutual
def snappy_Match.j0 : Nat → ByteArray → Int → Int → Int → Bool → Option (Int × Int)
 | 0,_,_,_,_,_=>none
 | k + 1,x0,x1,x4,x5,x15=>if x15 = true then (some (0,0)) else (snappy_Match.l0 k x0 x1 x4 x5 (wrap64 (x1 - 1)))
def snappy_Match.l0 : Nat → ByteArray → Int → Int → Int → Int → Option (Int × Int)
 | 0,_,_,_,_,_=>none
 | k + 1,x0,x1,x4,x5,x6=>if x6 ≥ (mx 0 (wrap64 (x1 - 65535))) then (snappy_Match.j2 k x0 x1 x4 x5 x6 (decide (x5 < 64))) else (snappy_Match.j2 k x0 x1 x4 x5 x6 false)
def snappy_Match.j2 : Nat → ByteArray → Int → Int → Int → Int → Bool → Option (Int × Int)
 | 0,_,_,_,_,_,_=>none
 | k + 1,x0,x1,x4,x5,x6,x26=>if x26 = true then ((snappy_alike.f k x0 x6 x1).bind fun t208=>(if t208 > x5 then (snappy_Match.l0 k x0 x1 (wrap64 (x1 - x6)) t208 (wrap64 (x6 - 1))) else (snappy_Match.l0 k x0 x1 x4 x5 (wrap64 (x6 - 1))))) else (some (x4,x5))
end
def snappy_Match.f (k : Nat) (a0 : ByteArray) (a1 : Int) : Option (Int × Int) := if a1 < 0 then (snappy_Match.j0 k a0 a1 0 0 true) else (snappy_Match.j0 k a0 a1 0 0 (decide (a1 ≥ (a0.size : Int))))
theorem snappy_Match.mono_l : ∀ k, (∀ y0 y1 y2 y3 y4, LeO (snappy_Match.j0 k y0 y1 y2 y3 y4) (snappy_Match.j0 (k + 1) y0 y1 y2 y3 y4)) ∧ (∀ y0 y1 y2 y3 y4, LeO (snappy_Match.l0 k y0 y1 y2 y3 y4) (snappy_Match.l0 (k + 1) y0 y1 y2 y3 y4)) ∧ (∀ y0 y1 y2 y3 y4 y5, LeO (snappy_Match.j2 k y0 y1 y2 y3 y4 y5) (snappy_Match.j2 (k + 1) y0 y1 y2 y3 y4 y5))
 | 0=>⟨fun _ _ _ _ _ r h=>by simp [snappy_Match.j0] at h,fun _ _ _ _ _ r h=>by simp [snappy_Match.l0] at h,fun _ _ _ _ _ _ r h=>by simp [snappy_Match.j2] at h⟩
 | k + 1=>by
  obtain ⟨ih0,ih1,ih2⟩ := snappy_Match.mono_l k
  refine ⟨?_,?_,?_⟩
  ·intro y0 y1 y2 y3 y4
   unfold snappy_Match.j0
   repeat' first
   | (with_reducible exact ih0 _ _ _ _ _)
   | (with_reducible exact ih1 _ _ _ _ _)
   | (with_reducible exact ih2 _ _ _ _ _ _)
   | (with_reducible exact snappy_alike.mono _ _ _ _)
   | (with_reducible exact LeO.refl _)
   | (with_reducible exact LeO.none _)
   | (with_reducible refine LeO.ite ?_ ?_)
   | (with_reducible refine LeO.bind ?_ (fun _=>?_))
   | exact ih0 _ _ _ _ _
   | exact ih1 _ _ _ _ _
   | exact ih2 _ _ _ _ _ _
   | exact snappy_alike.mono _ _ _ _
   | exact LeO.none _
   | refine LeO.ite ?_ ?_
   | refine LeO.bind ?_ (fun _=>?_)
  ·intro y0 y1 y2 y3 y4
   unfold snappy_Match.l0
   repeat' first
   | (with_reducible exact ih0 _ _ _ _ _)
   | (with_reducible exact ih1 _ _ _ _ _)
   | (with_reducible exact ih2 _ _ _ _ _ _)
   | (with_reducible exact snappy_alike.mono _ _ _ _)
   | (with_reducible exact LeO.refl _)
   | (with_reducible exact LeO.none _)
   | (with_reducible refine LeO.ite ?_ ?_)
   | (with_reducible refine LeO.bind ?_ (fun _=>?_))
   | exact ih0 _ _ _ _ _
   | exact ih1 _ _ _ _ _
   | exact ih2 _ _ _ _ _ _
   | exact snappy_alike.mono _ _ _ _
   | exact LeO.none _
   | refine LeO.ite ?_ ?_
   | refine LeO.bind ?_ (fun _=>?_)
  ·intro y0 y1 y2 y3 y4 y5
   unfold snappy_Match.j2
   repeat' first
   | (with_reducible exact ih0 _ _ _ _ _)
   | (with_reducible exact ih1 _ _ _ _ _)
   | (with_reducible exact ih2 _ _ _ _ _ _)
   | (with_reducible exact snappy_alike.mono _ _ _ _)
   | (with_reducible exact LeO.refl _)
   | (with_reducible exact LeO.none _)
   | (with_reducible refine LeO.ite ?_ ?_)
   | (with_reducible refine LeO.bind ?_ (fun _=>?_))
   | exact ih0 _ _ _ _ _
   | exact ih1 _ _ _ _ _
   | exact ih2 _ _ _ _ _ _
   | exact snappy_alike.mono _ _ _ _
   | exact LeO.none _
   | refine LeO.ite ?_ ?_
   | refine LeO.bind ?_ (fun _=>?_)
theorem snappy_Match.mono : ∀ a0 a1 k, LeO (snappy_Match.f k a0 a1) (snappy_Match.f (k + 1) a0 a1) := by
 intro a0 a1 k
 obtain ⟨ih0,ih1,ih2⟩ := snappy_Match.mono_l k
 unfold snappy_Match.f
 repeat' first
   | (with_reducible exact ih0 _ _ _ _ _)
   | (with_reducible exact ih1 _ _ _ _ _)
   | (with_reducible exact ih2 _ _ _ _ _ _)
   | (with_reducible exact snappy_alike.mono _ _ _ _)
   | (with_reducible exact LeO.refl _)
   | (with_reducible exact LeO.none _)
   | (with_reducible refine LeO.ite ?_ ?_)
   | (with_reducible refine LeO.bind ?_ (fun _=>?_))
   | exact ih0 _ _ _ _ _
   | exact ih1 _ _ _ _ _
   | exact ih2 _ _ _ _ _ _
   | exact snappy_alike.mono _ _ _ _
   | exact LeO.none _
   | refine LeO.ite ?_ ?_
   | refine LeO.bind ?_ (fun _=>?_)
set_option maxHeartbeats 8000000 in
set_option maxRecDepth 100000 in
theorem snappy_Match.calls (k : Nat) (a0 : ByteArray) (a1 : Int) (r1 : Int) (r2 : Int) (w : World) (h : snappy_Match.f k a0 a1 = some (r1, r2)) :
  Calls Try.prog 18 #[.string a0,.int .i64 a1] w fun e w'=>e = .returned (.tuple #[.int .i64 r1,.int .i64 r2]) ∧ Below w.heap.size w w' := by
 have HB := Aside0.mk (Below.refl w.heap.size w)
 have H : (if a1 < 0 then (snappy_Match.j0 k a0 a1 0 0 true) else (snappy_Match.j0 k a0 a1 0 0 (decide (a1 ≥ (a0.size : Int))))) = some (r1,r2) := h
 clear h
 have HC3 := Aside0.mk H
 clear H
 go_enter Try.func18,Try.ntmps18
 go_upto_region 1 with (fail)
 go_cut [15] (fun v15 wc=>∃ (kq : Nat) (x15_2 : Bool),v15 = .bool x15_2 ∧ Aside0 (snappy_Match.j0 kq a0 a1 0 0 x15_2 = some (r1,r2)) ∧ Aside0 (kq ≤ k) ∧ Aside0 (Below w.heap.size w wc))
 case first =>
  have H := HC3.out
  clear HC3
  by_cases c4 : a1 < 0
  ·rw [if_pos c4] at H
   have c4b0 : decide (a1 < 0) = true := decide_eq_true c4
   clear c4
   (first|rw [c4b0]|(simp only [i64_w,i32_w];rw [c4b0])|skip)
   have H' := Aside0.mk H
   clear H
   go_wp2
   go_meet
   case rel=>exact ⟨_,(true),q4_,H',⟨q50_⟩,⟨bl_⟩⟩
  ·rw [if_neg c4] at H
   have c4b0 : decide (a1 < 0) = false := decide_eq_false c4
   clear c4
   (first|rw [c4b0]|(simp only [i64_w,i32_w];rw [c4b0])|skip)
   have H' := Aside0.mk H
   clear H
   go_wp2
   go_meet
   case rel=>exact ⟨_,(decide (a1 ≥ (a0.size : Int))),q4_,H',⟨q50_⟩,⟨bl_⟩⟩
 case rest =>
  clear HC3
  try clear c1
  try clear p2
  try clear c4
  try clear c4b0
  obtain ⟨kq,x15_2,rfl,HA,HJ2,HB⟩ := hcut
  cases kq with
  | zero=>exact absurd HA.out (by simp [snappy_Match.j0])
  | succ kj2 =>
   have H := HA.out
   clear HA
   simp only [snappy_Match.j0] at H
   by_cases c5 : x15_2 = true
   ·subst c5
    have H1 : (some (0,0)) = some (r1,r2) := by rw [if_pos rfl] at H;exact H
    clear H
    have H := H1
    clear H1
    simp only [Option.some.injEq,Prod.mk.injEq] at H
    obtain ⟨rfl,rfl⟩ := H
    go_wp2
    go_ret2
    exact ⟨q1_,bl_⟩
   ·replace c5 := Bool.eq_false_iff.mpr c5
    subst c5
    have H1 : (snappy_Match.l0 kj2 a0 a1 0 0 (wrap64 (a1 - 1))) = some (r1,r2) := by rw [if_neg (show ¬ (false = true) by decide)] at H;exact H
    clear H
    have H := H1
    clear H1
    have H' := Aside0.mk H
    clear H
    go_wp2
    go_loopg [4,5,6] kj2 (fun kq v4 v5 v6 w'=>∃ (x4_2 : Int) (x5_2 : Int) (x6_2 : Int),v4 = .int .i64 x4_2 ∧ v5 = .int .i64 x5_2 ∧ v6 = .int .i64 x6_2 ∧ Aside0 (snappy_Match.l0 kq a0 a1 x4_2 x5_2 x6_2 = some (r1,r2)) ∧ Aside0 (kq ≤ kj2) ∧ Aside0 (Below w.heap.size w w'))
    case atStart=>exact ⟨(0),(0),(wrap64 (a1 - 1)),q4_,q4_,q4_,H',⟨Nat.le_refl _⟩,⟨bl_⟩⟩
    case round =>
     clear H'
     try clear c1
     try clear p2
     try clear c4
     try clear c4b0
     try clear c5
     try clear p2
     obtain ⟨x4_2,x5_2,x6_2,rfl,rfl,rfl,HA,HK2,HB⟩ := hrel
     cases gk with
     | zero=>exact absurd HA.out (by simp [snappy_Match.l0])
     | succ k2 =>
      have H := HA.out
      clear HA
      simp only [snappy_Match.l0] at H
      have HC6 := Aside0.mk H
      clear H
      go_upto_region 4 with (fail)
      go_cut [26] (fun v26 wc=>∃ (kq : Nat) (x26_5 : Bool),v26 = .bool x26_5 ∧ Aside0 (snappy_Match.j2 kq a0 a1 x4_2 x5_2 x6_2 x26_5 = some (r1,r2)) ∧ Aside0 (kq ≤ k2) ∧ Aside0 (Below w.heap.size w wc))
      case first =>
       have H := HC6.out
       clear HC6
       obtain ⟨ji7,hji7⟩ : ∃ j_ : Int,(mx 0 (wrap64 (a1 - 65535))) = j_ := ⟨_,rfl⟩
       replace H : (if x6_2 ≥ (ji7) then (snappy_Match.j2 k2 a0 a1 x4_2 x5_2 x6_2 (decide (x5_2 < 64))) else (snappy_Match.j2 k2 a0 a1 x4_2 x5_2 x6_2 false)) = some (r1,r2) := by first|(rw [hji7] at H;exact H)|(simp only [hji7] at H ⊢;exact H)
       have hji7_ : (if 0 < (wrap64 (a1 - 65535)) then (wrap64 (a1 - 65535)) else 0) = ji7 := hji7
       by_cases c8 : x6_2 ≥ (ji7)
       ·rw [if_pos c8] at H
        have c8b0 : decide ((ji7) ≤ x6_2) = true := decide_eq_true c8
        clear c8
        (first|rw [c8b0]|(simp only [i64_w,i32_w];rw [c8b0])|skip)
        have H' := Aside0.mk H
        clear H
        go_wp2
        go_meet
        case rel=>exact ⟨_,(decide (x5_2 < 64)),q4_,H',⟨q94_⟩,⟨bl_⟩⟩
       ·rw [if_neg c8] at H
        have c8b0 : decide ((ji7) ≤ x6_2) = false := decide_eq_false c8
        clear c8
        (first|rw [c8b0]|(simp only [i64_w,i32_w];rw [c8b0])|skip)
        have H' := Aside0.mk H
        clear H
        go_wp2
        go_meet
        case rel=>exact ⟨_,(false),q4_,H',⟨q94_⟩,⟨bl_⟩⟩
      case rest =>
       clear HC6
       try clear c1
       try clear p2
       try clear c4
       try clear c4b0
       try clear c5
       try clear p6
       try clear c8
       try clear c8b0
       try clear p2
       obtain ⟨kq,x26_5,rfl,HA,HJ5,HB⟩ := hcut
       cases kq with
       | zero=>exact absurd HA.out (by simp [snappy_Match.j2])
       | succ kj5 =>
        have H := HA.out
        clear HA
        simp only [snappy_Match.j2] at H
        by_cases c9 : x26_5 = true
        ·subst c9
         have H1 : ((snappy_alike.f kj5 a0 x6_2 a1).bind fun t208=>(if t208 > x5_2 then (snappy_Match.l0 kj5 a0 a1 (wrap64 (a1 - x6_2)) t208 (wrap64 (x6_2 - 1))) else (snappy_Match.l0 kj5 a0 a1 x4_2 x5_2 (wrap64 (x6_2 - 1))))) = some (r1,r2) := by rw [if_pos rfl] at H;exact H
         clear H
         have H := H1
         clear H1
         replace H := Option.bind_eq_some_iff.mp H
         obtain ⟨t208,A100,H⟩ := H
         replace H : (if t208 > x5_2 then (snappy_Match.l0 kj5 a0 a1 (wrap64 (a1 - x6_2)) t208 (wrap64 (x6_2 - 1))) else (snappy_Match.l0 kj5 a0 a1 x4_2 x5_2 (wrap64 (x6_2 - 1)))) = some (r1,r2) := H
         have A10 := Aside0.mk A100
         clear A100
         by_cases c11 : t208 > x5_2
         ·rw [if_pos c11] at H
          have c11b0 : decide (x5_2 < t208) = true := decide_eq_true c11
          clear c11
          have H' := Aside0.mk H
          clear H
          go_wp2_with (first|((with_reducible refine gate_callee (f := 43) rfl ?_);refine goesL_ (some 32) rfl rfl Try.func43 q9_ rfl #[.string a0,.int .i64 x6_2,.int .i64 a1] rfl q0_ ?_;(with_reducible refine (snappy_alike.calls kj5 a0 x6_2 a1 t208 _ A10.out).mono ?_);rintro e w' ⟨rfl,⟨nd,rfl⟩⟩;refine ⟨_,rfl,?_⟩))
          go_roundg kj5
          case measure=>have := HJ2.out;have := HK2.out;have := HJ5.out;omega
          case rel=>exact ⟨(wrap64 (a1 - x6_2)),(t208),(wrap64 (x6_2 - 1)),q4_,q4_,q4_,H',⟨by have := HJ2.out;have := HK2.out;have := HJ5.out;omega⟩,⟨bl_⟩⟩
         ·rw [if_neg c11] at H
          have c11b0 : decide (x5_2 < t208) = false := decide_eq_false c11
          clear c11
          have H' := Aside0.mk H
          clear H
          go_wp2_with (first|((with_reducible refine gate_callee (f := 43) rfl ?_);refine goesL_ (some 32) rfl rfl Try.func43 q9_ rfl #[.string a0,.int .i64 x6_2,.int .i64 a1] rfl q0_ ?_;(with_reducible refine (snappy_alike.calls kj5 a0 x6_2 a1 t208 _ A10.out).mono ?_);rintro e w' ⟨rfl,⟨nd,rfl⟩⟩;refine ⟨_,rfl,?_⟩))
          go_roundg kj5
          case measure=>have := HJ2.out;have := HK2.out;have := HJ5.out;omega
          case rel=>exact ⟨(x4_2),(x5_2),(wrap64 (x6_2 - 1)),q4_,q4_,q4_,H',⟨by have := HJ2.out;have := HK2.out;have := HJ5.out;omega⟩,⟨bl_⟩⟩
        ·replace c9 := Bool.eq_false_iff.mpr c9
         subst c9
         have H1 : (some (x4_2,x5_2)) = some (r1,r2) := by rw [if_neg (show ¬ (false = true) by decide)] at H;exact H
         clear H
         have H := H1
         clear H1
         simp only [Option.some.injEq,Prod.mk.injEq] at H
         obtain ⟨rfl,rfl⟩ := H
         go_wp2
         go_ret2
         exact ⟨q1_,bl_⟩

-- NOT PRINTED: function 40 (snappy_places_best)

end Go.Proofs.Ythcjcmgdblhhfaa.PV

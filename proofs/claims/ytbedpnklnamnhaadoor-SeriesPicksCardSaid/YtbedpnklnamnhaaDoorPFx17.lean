/- The machine side of these statements: what each Go function computes as a plain function, and that its call computes just that. Written by a program of mine (wip/drive.py). No conditions. -/
import Derived.Test.YtbedpnklnamnhaaDoorPFx0
import Derived.Test.YtbedpnklnamnhaaDoorPFx12
import Derived.Test.YtbedpnklnamnhaaDoorPFx15
namespace Go.Proofs.YtbedpnklnamnhaaDoor.PF
open Go.RowKit Go.Proofs.YtbedpnklnamnhaaDoorW.PrintWords Go.Proofs.YtbedpnklnamnhaaDoorW.PrintLast Go.Proofs.YtbedpnklnamnhaaDoorW.PrintMore
attribute [local go_sem] max2_int min2_int max_two min_two max_three min_three max_four min_four   -- for this text's walks alone
set_option linter.unusedVariables false
set_option linter.unusedSimpArgs false

/-! ### batonref22_Join: function 9 -/
mutual
def batonref22_Join.j0 : Nat → List (S40) → List (S40) → Bool → Option ((List (S40)) × Int)
 | 0,_,_,_=>none
 | k + 1,x0,x1,x16=>if x16 = true then (some (([] : List (S40)),4)) else (batonref22_Join.l0 k x0 x1 ([] : List (S40)) 0 0)
def batonref22_Join.l0 : Nat → List (S40) → List (S40) → List (S40) → Int → Int → Option ((List (S40)) × Int)
 | 0,_,_,_,_,_=>none
 | k + 1,x0,x1,x6,x7,x8=>if x7 < (x0.length : Int) then (batonref22_Join.j2 k x0 x1 x6 x7 x8 true) else (batonref22_Join.j2 k x0 x1 x6 x7 x8 (decide (x8 < (x1.length : Int))))
def batonref22_Join.j2 : Nat → List (S40) → List (S40) → List (S40) → Int → Int → Bool → Option ((List (S40)) × Int)
 | 0,_,_,_,_,_,_=>none
 | k + 1,x0,x1,x6,x7,x8,x26=>if x26 = true then (if x8 ≥ (x1.length : Int) then (batonref22_Join.j3 k x0 x1 x6 x7 x8 true) else (if x7 < (x0.length : Int) then (if 0 ≤ x7 then (if 0 ≤ x8 then (if x8 < (x1.length : Int) then (batonref22_Join.j3 k x0 x1 x6 x7 x8 (decide (((rd_T40 x0 x7).f0) ≤ ((rd_T40 x1 x8).f0)))) else (none)) else (none)) else (none)) else (batonref22_Join.j3 k x0 x1 x6 x7 x8 false))) else (some (x6,0))
def batonref22_Join.j3 : Nat → List (S40) → List (S40) → List (S40) → Int → Int → Bool → Option ((List (S40)) × Int)
 | 0,_,_,_,_,_,_=>none
 | k + 1,x0,x1,x6,x7,x8,x49=>if x49 = true then (if x8 < (x1.length : Int) then (if 0 ≤ x7 then (if x7 < (x0.length : Int) then (if 0 ≤ x8 then (if ((rd_T40 x0 x7).f0) = ((rd_T40 x1 x8).f0) then (if x6.length < 8796093022208 then (batonref22_Join.l0 k x0 x1 (x6 ++ [(⟨(rd_T40 x0 x7).f0,(rd_T40 x0 x7).f1⟩ : S40)]) (wrap64 (x7 + 1)) (wrap64 (x8 + 1))) else (none)) else (if x6.length < 8796093022208 then (batonref22_Join.l0 k x0 x1 (x6 ++ [(⟨(rd_T40 x0 x7).f0,(rd_T40 x0 x7).f1⟩ : S40)]) (wrap64 (x7 + 1)) x8) else (none))) else (none)) else (none)) else (none)) else (if 0 ≤ x7 then (if x7 < (x0.length : Int) then (if x6.length < 8796093022208 then (batonref22_Join.l0 k x0 x1 (x6 ++ [(⟨(rd_T40 x0 x7).f0,(rd_T40 x0 x7).f1⟩ : S40)]) (wrap64 (x7 + 1)) x8) else (none)) else (none)) else (none))) else (if 0 ≤ x8 then (if x8 < (x1.length : Int) then (if x6.length < 8796093022208 then (batonref22_Join.l0 k x0 x1 (x6 ++ [(⟨(rd_T40 x1 x8).f0,(rd_T40 x1 x8).f1⟩ : S40)]) x7 (wrap64 (x8 + 1))) else (none)) else (none)) else (none))
end
def batonref22_Join.f (k : Nat) (l0 : List (S40)) (l1 : List (S40)) : Option ((List (S40)) × Int) := (batonref22_May.f k l0).bind fun t232 => (if t232 = true then ((batonref22_May.f k l1).bind fun t233 => (batonref22_Join.j0 k l0 l1 (!t233))) else (batonref22_Join.j0 k l0 l1 true))
theorem batonref22_Join.mono_l : ∀ k, (∀ y0 y1 y2, LeO (batonref22_Join.j0 k y0 y1 y2) (batonref22_Join.j0 (k + 1) y0 y1 y2)) ∧ (∀ y0 y1 y2 y3 y4, LeO (batonref22_Join.l0 k y0 y1 y2 y3 y4) (batonref22_Join.l0 (k + 1) y0 y1 y2 y3 y4)) ∧ (∀ y0 y1 y2 y3 y4 y5, LeO (batonref22_Join.j2 k y0 y1 y2 y3 y4 y5) (batonref22_Join.j2 (k + 1) y0 y1 y2 y3 y4 y5)) ∧ (∀ y0 y1 y2 y3 y4 y5, LeO (batonref22_Join.j3 k y0 y1 y2 y3 y4 y5) (batonref22_Join.j3 (k + 1) y0 y1 y2 y3 y4 y5))
 | 0=>⟨fun _ _ _ r h=>by simp [batonref22_Join.j0] at h,fun _ _ _ _ _ r h=>by simp [batonref22_Join.l0] at h,fun _ _ _ _ _ _ r h=>by simp [batonref22_Join.j2] at h,fun _ _ _ _ _ _ r h=>by simp [batonref22_Join.j3] at h⟩
 | k + 1=>by
  obtain ⟨ih0,ih1,ih2,ih3⟩ := batonref22_Join.mono_l k
  refine ⟨?_,?_,?_,?_⟩
  ·intro y0 y1 y2
   unfold batonref22_Join.j0
   repeat' first
   | (with_reducible exact ih0 _ _ _)
   | (with_reducible exact ih1 _ _ _ _ _)
   | (with_reducible exact ih2 _ _ _ _ _ _)
   | (with_reducible exact ih3 _ _ _ _ _ _)
   | (with_reducible exact batonref22_May.mono _ _)
   | (with_reducible exact LeO.refl _)
   | (with_reducible exact LeO.none _)
   | (with_reducible refine LeO.ite ?_ ?_)
   | (with_reducible refine LeO.bind ?_ (fun _=>?_))
   | exact ih0 _ _ _
   | exact ih1 _ _ _ _ _
   | exact ih2 _ _ _ _ _ _
   | exact ih3 _ _ _ _ _ _
   | exact batonref22_May.mono _ _
   | exact LeO.none _
   | refine LeO.ite ?_ ?_
   | refine LeO.bind ?_ (fun _=>?_)
  ·intro y0 y1 y2 y3 y4
   unfold batonref22_Join.l0
   repeat' first
   | (with_reducible exact ih0 _ _ _)
   | (with_reducible exact ih1 _ _ _ _ _)
   | (with_reducible exact ih2 _ _ _ _ _ _)
   | (with_reducible exact ih3 _ _ _ _ _ _)
   | (with_reducible exact batonref22_May.mono _ _)
   | (with_reducible exact LeO.refl _)
   | (with_reducible exact LeO.none _)
   | (with_reducible refine LeO.ite ?_ ?_)
   | (with_reducible refine LeO.bind ?_ (fun _=>?_))
   | exact ih0 _ _ _
   | exact ih1 _ _ _ _ _
   | exact ih2 _ _ _ _ _ _
   | exact ih3 _ _ _ _ _ _
   | exact batonref22_May.mono _ _
   | exact LeO.none _
   | refine LeO.ite ?_ ?_
   | refine LeO.bind ?_ (fun _=>?_)
  ·intro y0 y1 y2 y3 y4 y5
   unfold batonref22_Join.j2
   repeat' first
   | (with_reducible exact ih0 _ _ _)
   | (with_reducible exact ih1 _ _ _ _ _)
   | (with_reducible exact ih2 _ _ _ _ _ _)
   | (with_reducible exact ih3 _ _ _ _ _ _)
   | (with_reducible exact batonref22_May.mono _ _)
   | (with_reducible exact LeO.refl _)
   | (with_reducible exact LeO.none _)
   | (with_reducible refine LeO.ite ?_ ?_)
   | (with_reducible refine LeO.bind ?_ (fun _=>?_))
   | exact ih0 _ _ _
   | exact ih1 _ _ _ _ _
   | exact ih2 _ _ _ _ _ _
   | exact ih3 _ _ _ _ _ _
   | exact batonref22_May.mono _ _
   | exact LeO.none _
   | refine LeO.ite ?_ ?_
   | refine LeO.bind ?_ (fun _=>?_)
  ·intro y0 y1 y2 y3 y4 y5
   unfold batonref22_Join.j3
   repeat' first
   | (with_reducible exact ih0 _ _ _)
   | (with_reducible exact ih1 _ _ _ _ _)
   | (with_reducible exact ih2 _ _ _ _ _ _)
   | (with_reducible exact ih3 _ _ _ _ _ _)
   | (with_reducible exact batonref22_May.mono _ _)
   | (with_reducible exact LeO.refl _)
   | (with_reducible exact LeO.none _)
   | (with_reducible refine LeO.ite ?_ ?_)
   | (with_reducible refine LeO.bind ?_ (fun _=>?_))
   | exact ih0 _ _ _
   | exact ih1 _ _ _ _ _
   | exact ih2 _ _ _ _ _ _
   | exact ih3 _ _ _ _ _ _
   | exact batonref22_May.mono _ _
   | exact LeO.none _
   | refine LeO.ite ?_ ?_
   | refine LeO.bind ?_ (fun _=>?_)
theorem batonref22_Join.mono : ∀ a0 a1 k, LeO (batonref22_Join.f k a0 a1) (batonref22_Join.f (k + 1) a0 a1) := by
 intro a0 a1 k
 obtain ⟨ih0,ih1,ih2,ih3⟩ := batonref22_Join.mono_l k
 unfold batonref22_Join.f
 repeat' first
   | (with_reducible exact ih0 _ _ _)
   | (with_reducible exact ih1 _ _ _ _ _)
   | (with_reducible exact ih2 _ _ _ _ _ _)
   | (with_reducible exact ih3 _ _ _ _ _ _)
   | (with_reducible exact batonref22_May.mono _ _)
   | (with_reducible exact LeO.refl _)
   | (with_reducible exact LeO.none _)
   | (with_reducible refine LeO.ite ?_ ?_)
   | (with_reducible refine LeO.bind ?_ (fun _=>?_))
   | exact ih0 _ _ _
   | exact ih1 _ _ _ _ _
   | exact ih2 _ _ _ _ _ _
   | exact ih3 _ _ _ _ _ _
   | exact batonref22_May.mono _ _
   | exact LeO.none _
   | refine LeO.ite ?_ ?_
   | refine LeO.bind ?_ (fun _=>?_)
set_option maxHeartbeats 8000000 in
set_option maxRecDepth 100000 in
theorem batonref22_Join.calls (k : Nat) (A0 : Option Addr) (c0 : Nat) (l0 : List (S40)) (A1 : Option Addr) (c1 : Nat) (l1 : List (S40)) (r1 : List (S40)) (r2 : Int) (w : World) (hr0 : Kd.C k40 w A0 l0.length l0) (hc0 : l0.length ≤ c0) (hr1 : Kd.C k40 w A1 l1.length l1) (hc1 : l1.length ≤ c1) (h : batonref22_Join.f k l0 l1 = some (r1, r2)) :
  Calls Tryd.prog 9 #[.slice A0 l0.length c0,.slice A1 l1.length c1] w fun e w'=>∃ v0_ : Value,e = .returned (.tuple #[v0_,.int .i64 r2]) ∧ Kd.R k40 40 w' w.heap.size (fun _=>True) v0_ r1 ∧ Below w.heap.size w w' := by
 have hu40 := Tryd.underlying40
 have HR0 := Aside0.mk hr0
 have HC0 := Aside0.mk hc0
 clear hr0 hc0
 have HR1 := Aside0.mk hr1
 have HC1 := Aside0.mk hc1
 clear hr1 hc1
 have HB := Aside0.mk (Below.refl w.heap.size w)
 have H : ((batonref22_May.f k l0).bind fun t232=>(if t232 = true then ((batonref22_May.f k l1).bind fun t233=>(batonref22_Join.j0 k l0 l1 (!t233))) else (batonref22_Join.j0 k l0 l1 true))) = some (r1,r2) := h
 clear h
 have HC3 := Aside0.mk H
 clear H
 go_enter Tryd.func9,Tryd.ntmps9
 go_upto_region 1 with (fail)
 repeat (go_quiet (fail);go_upto_region 1 with (fail))
 go_cut [16] (fun v16 wc=>∃ (kq : Nat) (x16_2 : Bool),v16 = .bool x16_2 ∧ Aside0 (batonref22_Join.j0 kq l0 l1 x16_2 = some (r1,r2)) ∧ Aside0 (kq ≤ k) ∧ Aside0 (Below w.heap.size w wc))
 case first =>
  have H := HC3.out
  clear HC3
  replace H := Option.bind_eq_some_iff.mp H
  obtain ⟨t232,A40,H⟩ := H
  replace H : (if t232 = true then ((batonref22_May.f k l1).bind fun t233=>(batonref22_Join.j0 k l0 l1 (!t233))) else (batonref22_Join.j0 k l0 l1 true)) = some (r1,r2) := H
  have A4 := Aside0.mk A40
  clear A40
  by_cases c5 : t232 = true
  ·subst c5
   have H1 : ((batonref22_May.f k l1).bind fun t233=>(batonref22_Join.j0 k l0 l1 (!t233))) = some (r1,r2) := by rw [if_pos rfl] at H;exact H
   clear H
   have H := H1
   clear H1
   replace H := Option.bind_eq_some_iff.mp H
   obtain ⟨t233,A60,H⟩ := H
   replace H : (batonref22_Join.j0 k l0 l1 (!t233)) = some (r1,r2) := H
   have A6 := Aside0.mk A60
   clear A60
   have H' := Aside0.mk H
   clear H
   go_wp2_with (first|(go_at_call 24;(with_reducible refine (batonref22_May.calls k _ _ l0 true _ ?side1 ?side2 A4.out).mono ?_);(case side1=>repeat (first|exact (Kd.C_below HR0.out HB.out)|(with_reducible refine Kd.C_alloc ?_ _)|(with_reducible refine Kd.C_drewN ?_ _)|(with_reducible refine Kd.C_drew ?_)));(case side2=>exact HC0.out);rintro e w' ⟨rfl,⟨nd,rfl⟩⟩;(try first|exact ⟨rfl,_,World.drewN_drewN _ _ _⟩|exact ⟨rfl,_,Eq.trans (World.drewN_drewN _ _ _) (congrArg (World.drewN _) (Nat.add_assoc _ _ _))⟩))|(go_at_call 24;(with_reducible refine (batonref22_May.calls k _ _ l1 t233 _ ?side1 ?side2 A6.out).mono ?_);(case side1=>repeat (first|exact (Kd.C_below HR1.out (bl_))|(with_reducible refine Kd.C_alloc ?_ _)|(with_reducible refine Kd.C_drewN ?_ _)|(with_reducible refine Kd.C_drew ?_)));(case side2=>exact HC1.out);rintro e w' ⟨rfl,⟨nd,rfl⟩⟩;(try first|exact ⟨rfl,_,World.drewN_drewN _ _ _⟩|exact ⟨rfl,_,Eq.trans (World.drewN_drewN _ _ _) (congrArg (World.drewN _) (Nat.add_assoc _ _ _))⟩)))
   repeat (go_quiet (first|(go_at_call 24;(with_reducible refine (batonref22_May.calls k _ _ l0 true _ ?side1 ?side2 A4.out).mono ?_);(case side1=>repeat (first|exact (Kd.C_below HR0.out HB.out)|(with_reducible refine Kd.C_alloc ?_ _)|(with_reducible refine Kd.C_drewN ?_ _)|(with_reducible refine Kd.C_drew ?_)));(case side2=>exact HC0.out);rintro e w' ⟨rfl,⟨nd,rfl⟩⟩;(try first|exact ⟨rfl,_,World.drewN_drewN _ _ _⟩|exact ⟨rfl,_,Eq.trans (World.drewN_drewN _ _ _) (congrArg (World.drewN _) (Nat.add_assoc _ _ _))⟩))|(go_at_call 24;(with_reducible refine (batonref22_May.calls k _ _ l1 t233 _ ?side1 ?side2 A6.out).mono ?_);(case side1=>repeat (first|exact (Kd.C_below HR1.out (bl_))|(with_reducible refine Kd.C_alloc ?_ _)|(with_reducible refine Kd.C_drewN ?_ _)|(with_reducible refine Kd.C_drew ?_)));(case side2=>exact HC1.out);rintro e w' ⟨rfl,⟨nd,rfl⟩⟩;(try first|exact ⟨rfl,_,World.drewN_drewN _ _ _⟩|exact ⟨rfl,_,Eq.trans (World.drewN_drewN _ _ _) (congrArg (World.drewN _) (Nat.add_assoc _ _ _))⟩)));try go_wp2_with (first|(go_at_call 24;(with_reducible refine (batonref22_May.calls k _ _ l0 true _ ?side1 ?side2 A4.out).mono ?_);(case side1=>repeat (first|exact (Kd.C_below HR0.out HB.out)|(with_reducible refine Kd.C_alloc ?_ _)|(with_reducible refine Kd.C_drewN ?_ _)|(with_reducible refine Kd.C_drew ?_)));(case side2=>exact HC0.out);rintro e w' ⟨rfl,⟨nd,rfl⟩⟩;(try first|exact ⟨rfl,_,World.drewN_drewN _ _ _⟩|exact ⟨rfl,_,Eq.trans (World.drewN_drewN _ _ _) (congrArg (World.drewN _) (Nat.add_assoc _ _ _))⟩))|(go_at_call 24;(with_reducible refine (batonref22_May.calls k _ _ l1 t233 _ ?side1 ?side2 A6.out).mono ?_);(case side1=>repeat (first|exact (Kd.C_below HR1.out (bl_))|(with_reducible refine Kd.C_alloc ?_ _)|(with_reducible refine Kd.C_drewN ?_ _)|(with_reducible refine Kd.C_drew ?_)));(case side2=>exact HC1.out);rintro e w' ⟨rfl,⟨nd,rfl⟩⟩;(try first|exact ⟨rfl,_,World.drewN_drewN _ _ _⟩|exact ⟨rfl,_,Eq.trans (World.drewN_drewN _ _ _) (congrArg (World.drewN _) (Nat.add_assoc _ _ _))⟩))))
   go_meet
   case rel=>exact ⟨_,(!t233),q10_,H',⟨q45_⟩,⟨bl_⟩⟩
  ·replace c5 := Bool.eq_false_iff.mpr c5
   subst c5
   have H1 : (batonref22_Join.j0 k l0 l1 true) = some (r1,r2) := by rw [if_neg (show ¬ (false = true) by decide)] at H;exact H
   clear H
   have H := H1
   clear H1
   have H' := Aside0.mk H
   clear H
   go_wp2_with (first|(go_at_call 24;(with_reducible refine (batonref22_May.calls k _ _ l0 false _ ?side1 ?side2 A4.out).mono ?_);(case side1=>repeat (first|exact (Kd.C_below HR0.out HB.out)|(with_reducible refine Kd.C_alloc ?_ _)|(with_reducible refine Kd.C_drewN ?_ _)|(with_reducible refine Kd.C_drew ?_)));(case side2=>exact HC0.out);rintro e w' ⟨rfl,⟨nd,rfl⟩⟩;(try first|exact ⟨rfl,_,World.drewN_drewN _ _ _⟩|exact ⟨rfl,_,Eq.trans (World.drewN_drewN _ _ _) (congrArg (World.drewN _) (Nat.add_assoc _ _ _))⟩)))
   repeat (go_quiet (first|(go_at_call 24;(with_reducible refine (batonref22_May.calls k _ _ l0 false _ ?side1 ?side2 A4.out).mono ?_);(case side1=>repeat (first|exact (Kd.C_below HR0.out HB.out)|(with_reducible refine Kd.C_alloc ?_ _)|(with_reducible refine Kd.C_drewN ?_ _)|(with_reducible refine Kd.C_drew ?_)));(case side2=>exact HC0.out);rintro e w' ⟨rfl,⟨nd,rfl⟩⟩;(try first|exact ⟨rfl,_,World.drewN_drewN _ _ _⟩|exact ⟨rfl,_,Eq.trans (World.drewN_drewN _ _ _) (congrArg (World.drewN _) (Nat.add_assoc _ _ _))⟩)));try go_wp2_with (first|(go_at_call 24;(with_reducible refine (batonref22_May.calls k _ _ l0 false _ ?side1 ?side2 A4.out).mono ?_);(case side1=>repeat (first|exact (Kd.C_below HR0.out HB.out)|(with_reducible refine Kd.C_alloc ?_ _)|(with_reducible refine Kd.C_drewN ?_ _)|(with_reducible refine Kd.C_drew ?_)));(case side2=>exact HC0.out);rintro e w' ⟨rfl,⟨nd,rfl⟩⟩;(try first|exact ⟨rfl,_,World.drewN_drewN _ _ _⟩|exact ⟨rfl,_,Eq.trans (World.drewN_drewN _ _ _) (congrArg (World.drewN _) (Nat.add_assoc _ _ _))⟩))))
   go_meet
   case rel=>exact ⟨_,(true),q10_,H',⟨q45_⟩,⟨bl_⟩⟩
 case rest =>
  clear HC3
  try clear c1
  try clear p2
  try clear c5
  obtain ⟨kq,x16_2,rfl,HA,HJ2,HB⟩ := hcut
  cases kq with
  | zero=>exact absurd HA.out (by simp [batonref22_Join.j0])
  | succ kj2 =>
   have H := HA.out
   clear HA
   simp only [batonref22_Join.j0] at H
   by_cases c7 : x16_2 = true
   ·subst c7
    have H1 : (some (([] : List (S40)),4)) = some (r1,r2) := by rw [if_pos rfl] at H;exact H
    clear H
    have H := H1
    clear H1
    simp only [Option.some.injEq,Prod.mk.injEq] at H
    obtain ⟨rfl,rfl⟩ := H
    go_wp2
    repeat (go_quiet (fail);try go_wp2)
    go_ret2
    exact ⟨_,q9_,q16_,bl_⟩
   ·replace c7 := Bool.eq_false_iff.mpr c7
    subst c7
    have H1 : (batonref22_Join.l0 kj2 l0 l1 ([] : List (S40)) 0 0) = some (r1,r2) := by rw [if_neg (show ¬ (false = true) by decide)] at H;exact H
    clear H
    have H := H1
    clear H1
    have H' := Aside0.mk H
    clear H
    go_wp2
    repeat (go_quiet (fail);try go_wp2)
    go_loopg [6,7,8] kj2 (fun kq v6 v7 v8 w'=>∃ (x6_2 : List (S40)) (x7_2 : Int) (x8_2 : Int),v7 = .int .i64 x7_2 ∧ v8 = .int .i64 x8_2 ∧ Aside0 (batonref22_Join.l0 kq l0 l1 x6_2 x7_2 x8_2 = some (r1,r2)) ∧ Aside0 (kq ≤ kj2) ∧ Aside0 (Kd.R k40 40 w' w.heap.size (fun _=>True) v6 x6_2) ∧ Aside0 (Below w.heap.size w w'))
    case atStart=>exact ⟨(([] : List (S40))),(0),(0),q10_,q10_,H',⟨Nat.le_refl _⟩,⟨q16_⟩,⟨bl_⟩⟩
    case round =>
     clear H'
     try clear c1
     try clear p2
     try clear c5
     try clear c7
     try clear p2
     obtain ⟨x6_2,x7_2,x8_2,rfl,rfl,HA,HK2,HO_6,HB⟩ := hrel
     cases gk with
     | zero=>exact absurd HA.out (by simp [batonref22_Join.l0])
     | succ k2 =>
      have H := HA.out
      clear HA
      simp only [batonref22_Join.l0] at H
      have HC8 := Aside0.mk H
      clear H
      go_upto_region 6 with (fail)
      repeat (go_quiet (fail);go_upto_region 6 with (fail))
      go_cut [26] (fun v26 wc=>∃ (kq : Nat) (x26_7 : Bool),v26 = .bool x26_7 ∧ Aside0 (batonref22_Join.j2 kq l0 l1 x6_2 x7_2 x8_2 x26_7 = some (r1,r2)) ∧ Aside0 (kq ≤ k2) ∧ Aside0 (Kd.R k40 40 wc w.heap.size (fun _=>True) u6 x6_2) ∧ Aside0 (Below w.heap.size w wc))
      case first =>
       have H := HC8.out
       clear HC8
       by_cases c9 : x7_2 < (l0.length : Int)
       ·rw [if_pos c9] at H
        have c9b0 : decide (x7_2 < (l0.length : Int)) = true := decide_eq_true c9
        clear c9
        (first|rw [c9b0]|(simp only [i64_w,i32_w];rw [c9b0])|skip)
        have H' := Aside0.mk H
        clear H
        go_wp2
        repeat (go_quiet (fail);try go_wp2)
        go_meet
        case rel=>exact ⟨_,(true),q10_,H',⟨by have := HJ2.out;have := HK2.out;first|omega|exact Nat.le_refl _⟩,⟨q12_⟩,⟨bl_⟩⟩
       ·rw [if_neg c9] at H
        have c9b0 : decide (x7_2 < (l0.length : Int)) = false := decide_eq_false c9
        clear c9
        (first|rw [c9b0]|(simp only [i64_w,i32_w];rw [c9b0])|skip)
        have H' := Aside0.mk H
        clear H
        go_wp2
        repeat (go_quiet (fail);try go_wp2)
        go_meet
        case rel=>exact ⟨_,(decide (x8_2 < (l1.length : Int))),q10_,H',⟨by have := HJ2.out;have := HK2.out;first|omega|exact Nat.le_refl _⟩,⟨q12_⟩,⟨bl_⟩⟩
      case rest =>
       clear HC8
       try clear c1
       try clear p2
       try clear c5
       try clear c7
       try clear c9
       try clear c9b0
       try clear p2
       obtain ⟨kq,x26_7,rfl,HA,HJ7,HO_6,HB⟩ := hcut
       cases kq with
       | zero=>exact absurd HA.out (by simp [batonref22_Join.j2])
       | succ kj7 =>
        have H := HA.out
        clear HA
        simp only [batonref22_Join.j2] at H
        by_cases c10 : x26_7 = true
        ·subst c10
         have H1 : (if x8_2 ≥ (l1.length : Int) then (batonref22_Join.j3 kj7 l0 l1 x6_2 x7_2 x8_2 true) else (if x7_2 < (l0.length : Int) then (if 0 ≤ x7_2 then (if 0 ≤ x8_2 then (if x8_2 < (l1.length : Int) then (batonref22_Join.j3 kj7 l0 l1 x6_2 x7_2 x8_2 (decide (((rd_T40 l0 x7_2).f0) ≤ ((rd_T40 l1 x8_2).f0)))) else (none)) else (none)) else (none)) else (batonref22_Join.j3 kj7 l0 l1 x6_2 x7_2 x8_2 false))) = some (r1,r2) := by rw [if_pos rfl] at H;exact H
         clear H
         have H := H1
         clear H1
         have HC11 := Aside0.mk H
         clear H
         go_upto_region 7 with (fail)
         repeat (go_quiet (fail);go_upto_region 7 with (fail))
         go_cut [49] (fun v49 wc=>∃ (kq : Nat) (x49_10 : Bool),v49 = .bool x49_10 ∧ Aside0 (batonref22_Join.j3 kq l0 l1 x6_2 x7_2 x8_2 x49_10 = some (r1,r2)) ∧ Aside0 (kq ≤ kj7) ∧ Aside0 (Kd.R k40 40 wc w.heap.size (fun _=>True) u6 x6_2) ∧ Aside0 (Below w.heap.size w wc))
         case first =>
          have H := HC11.out
          clear HC11
          by_cases c12 : x8_2 ≥ (l1.length : Int)
          ·rw [if_pos c12] at H
           have c12b0 : decide ((l1.length : Int) ≤ x8_2) = true := decide_eq_true c12
           clear c12
           (first|rw [c12b0]|(simp only [i64_w,i32_w];rw [c12b0])|skip)
           have H' := Aside0.mk H
           clear H
           go_wp2
           repeat (go_quiet (fail);try go_wp2)
           go_meet
           case rel=>exact ⟨_,(true),q10_,H',⟨q51_⟩,⟨q12_⟩,⟨bl_⟩⟩
          ·rw [if_neg c12] at H
           have c12b0 : decide ((l1.length : Int) ≤ x8_2) = false := decide_eq_false c12
           clear c12
           (first|rw [c12b0]|(simp only [i64_w,i32_w];rw [c12b0])|skip)
           by_cases c13 : x7_2 < (l0.length : Int)
           ·rw [if_pos c13] at H
            have c13b0 : decide (x7_2 < (l0.length : Int)) = true := decide_eq_true c13
            clear c13
            by_cases c14 : 0 ≤ x7_2
            ·rw [if_pos c14] at H
             have c14b0 : decide (0 ≤ x7_2) = true := decide_eq_true c14
             clear c14
             by_cases c15 : 0 ≤ x8_2
             ·rw [if_pos c15] at H
              have c15b0 : decide (0 ≤ x8_2) = true := decide_eq_true c15
              clear c15
              by_cases c16 : x8_2 < (l1.length : Int)
              ·rw [if_pos c16] at H
               have c16b0 : decide (x8_2 < (l1.length : Int)) = true := decide_eq_true c16
               clear c16
               have H' := Aside0.mk H
               clear H
               have p234 : 0 ≤ (x7_2 : Int) := of_decide_eq_true q5_
               have q234 : x7_2 < (l0.length : Int) := of_decide_eq_true q5_
               obtain ⟨ad234,e234,hx234_0,hx234_1⟩ := at_T40 HR0.out x7_2 p234 q234
               cases e234
               replace hx234_0 := (HB.out.cell (World.block_lt_of_cell? w _ hx234_0)).trans hx234_0
               replace hx234_1 := (HB.out.cell (World.block_lt_of_cell? w _ hx234_1)).trans hx234_1
               replace p234 := eq_true p234
               replace q234 := eq_true q234
               have p235 : 0 ≤ (x8_2 : Int) := of_decide_eq_true q5_
               have q235 : x8_2 < (l1.length : Int) := of_decide_eq_true q5_
               obtain ⟨ad235,e235,hx235_0,hx235_1⟩ := at_T40 HR1.out x8_2 p235 q235
               cases e235
               replace hx235_0 := (HB.out.cell (World.block_lt_of_cell? w _ hx235_0)).trans hx235_0
               replace hx235_1 := (HB.out.cell (World.block_lt_of_cell? w _ hx235_1)).trans hx235_1
               replace p235 := eq_true p235
               replace q235 := eq_true q235
               go_wp2
               repeat (go_quiet (fail);try go_wp2)
               go_meet
               case rel=>exact ⟨_,(decide (((rd_T40 l0 x7_2).f0) ≤ ((rd_T40 l1 x8_2).f0))),q10_,H',⟨q51_⟩,⟨q12_⟩,⟨bl_⟩⟩
              ·rw [if_neg c16] at H
               exact absurd H (by simp)
             ·rw [if_neg c15] at H
              exact absurd H (by simp)
            ·rw [if_neg c14] at H
             exact absurd H (by simp)
           ·rw [if_neg c13] at H
            have c13b0 : decide (x7_2 < (l0.length : Int)) = false := decide_eq_false c13
            clear c13
            have H' := Aside0.mk H
            clear H
            go_wp2
            repeat (go_quiet (fail);try go_wp2)
            go_meet
            case rel=>exact ⟨_,(false),q10_,H',⟨q51_⟩,⟨q12_⟩,⟨bl_⟩⟩
         case rest =>
          clear HC11
          try clear c1
          try clear p2
          try clear q2
          try clear hx2
          try clear c5
          try clear c7
          try clear c9
          try clear c9b0
          try clear c10
          try clear c12
          try clear c12b0
          try clear c13
          try clear c13b0
          try clear c14
          try clear c14b0
          try clear c15
          try clear c15b0
          try clear c16
          try clear c16b0
          try clear hx234_0
          try clear hx234_1
          try clear hx235_0
          try clear hx235_1
          try clear p2
          try clear p234
          try clear p235
          try clear q234
          try clear q235
          obtain ⟨kq,x49_10,rfl,HA,HJ10,HO_6,HB⟩ := hcut
          cases kq with
          | zero=>exact absurd HA.out (by simp [batonref22_Join.j3])
          | succ kj10 =>
           have H := HA.out
           clear HA
           simp only [batonref22_Join.j3] at H
           by_cases c17 : x49_10 = true
           ·subst c17
            have H1 : (if x8_2 < (l1.length : Int) then (if 0 ≤ x7_2 then (if x7_2 < (l0.length : Int) then (if 0 ≤ x8_2 then (if ((rd_T40 l0 x7_2).f0) = ((rd_T40 l1 x8_2).f0) then (if x6_2.length < 8796093022208 then (batonref22_Join.l0 kj10 l0 l1 (x6_2 ++ [(⟨(rd_T40 l0 x7_2).f0,(rd_T40 l0 x7_2).f1⟩ : S40)]) (wrap64 (x7_2 + 1)) (wrap64 (x8_2 + 1))) else (none)) else (if x6_2.length < 8796093022208 then (batonref22_Join.l0 kj10 l0 l1 (x6_2 ++ [(⟨(rd_T40 l0 x7_2).f0,(rd_T40 l0 x7_2).f1⟩ : S40)]) (wrap64 (x7_2 + 1)) x8_2) else (none))) else (none)) else (none)) else (none)) else (if 0 ≤ x7_2 then (if x7_2 < (l0.length : Int) then (if x6_2.length < 8796093022208 then (batonref22_Join.l0 kj10 l0 l1 (x6_2 ++ [(⟨(rd_T40 l0 x7_2).f0,(rd_T40 l0 x7_2).f1⟩ : S40)]) (wrap64 (x7_2 + 1)) x8_2) else (none)) else (none)) else (none))) = some (r1,r2) := by rw [if_pos rfl] at H;exact H
            clear H
            have H := H1
            clear H1
            by_cases c18 : x8_2 < (l1.length : Int)
            ·rw [if_pos c18] at H
             have c18b0 : decide (x8_2 < (l1.length : Int)) = true := decide_eq_true c18
             clear c18
             by_cases c19 : 0 ≤ x7_2
             ·rw [if_pos c19] at H
              have c19b0 : decide (0 ≤ x7_2) = true := decide_eq_true c19
              clear c19
              by_cases c20 : x7_2 < (l0.length : Int)
              ·rw [if_pos c20] at H
               have c20b0 : decide (x7_2 < (l0.length : Int)) = true := decide_eq_true c20
               clear c20
               by_cases c21 : 0 ≤ x8_2
               ·rw [if_pos c21] at H
                have c21b0 : decide (0 ≤ x8_2) = true := decide_eq_true c21
                clear c21
                by_cases c22 : ((rd_T40 l0 x7_2).f0) = ((rd_T40 l1 x8_2).f0)
                ·rw [if_pos c22] at H
                 have c22b0 : (((rd_T40 l0 x7_2).f0) == ((rd_T40 l1 x8_2).f0)) = true := beq_iff_eq.mpr c22
                 have c22b1 : (((rd_T40 l0 x7_2).f0) != ((rd_T40 l1 x8_2).f0)) = false := bne_eq_false_iff_eq.mpr c22
                 clear c22
                 by_cases c23 : x6_2.length < 8796093022208
                 ·rw [if_pos c23] at H
                  have LMc23 := Aside0.mk c23
                  clear c23
                  obtain ⟨y239,hy239⟩ : ∃ y_ : List (S40),y_ = (x6_2 ++ [(⟨(rd_T40 l0 x7_2).f0,(rd_T40 l0 x7_2).f1⟩ : S40)]) := ⟨_,rfl⟩
                  replace H : (batonref22_Join.l0 kj10 l0 l1 y239 (wrap64 (x7_2 + 1)) (wrap64 (x8_2 + 1))) = some (r1,r2) := by first|(rw [hy239];with_reducible exact H)|(have H2_ := (Option.bind_some _ _).symm.trans H;rw [hy239];with_reducible exact H2_)|(have H2_ := (Option.bind_some _ _).symm.trans H;with_reducible exact H2_)|with_reducible exact H|(rw [hy239];exact H)|exact H
                  have Ny239 := Aside0.mk hy239
                  clear hy239
                  have H' := Aside0.mk H
                  clear H
                  have p236 : 0 ≤ (x7_2 : Int) := of_decide_eq_true q5_
                  have q236 : x7_2 < (l0.length : Int) := of_decide_eq_true q5_
                  obtain ⟨ad236,e236,hx236_0,hx236_1⟩ := at_T40 HR0.out x7_2 p236 q236
                  cases e236
                  replace hx236_0 := (HB.out.cell (World.block_lt_of_cell? w _ hx236_0)).trans hx236_0
                  replace hx236_1 := (HB.out.cell (World.block_lt_of_cell? w _ hx236_1)).trans hx236_1
                  replace p236 := eq_true p236
                  replace q236 := eq_true q236
                  have p237 : 0 ≤ (x8_2 : Int) := of_decide_eq_true q5_
                  have q237 : x8_2 < (l1.length : Int) := of_decide_eq_true q5_
                  obtain ⟨ad237,e237,hx237_0,hx237_1⟩ := at_T40 HR1.out x8_2 p237 q237
                  cases e237
                  replace hx237_0 := (HB.out.cell (World.block_lt_of_cell? w _ hx237_0)).trans hx237_0
                  replace hx237_1 := (HB.out.cell (World.block_lt_of_cell? w _ hx237_1)).trans hx237_1
                  replace p237 := eq_true p237
                  replace q237 := eq_true q237
                  have p238 : 0 ≤ (x7_2 : Int) := of_decide_eq_true q5_
                  have q238 : x7_2 < (l0.length : Int) := of_decide_eq_true q5_
                  obtain ⟨ad238,e238,hx238_0,hx238_1⟩ := at_T40 HR0.out x7_2 p238 q238
                  obtain rfl : ad236 = ad238 := (by injection e238)
                  replace hx238_0 := (HB.out.cell (World.block_lt_of_cell? w _ hx238_0)).trans hx238_0
                  replace hx238_1 := (HB.out.cell (World.block_lt_of_cell? w _ hx238_1)).trans hx238_1
                  replace p238 := eq_true p238
                  replace q238 := eq_true q238
                  go_wp2_with (first|((with_reducible refine gate_builtin (b := .append) (xs := #[.tmp 69,.tmp 74]) rfl ?_);(try (refine gate_guard (by rfl) ?_;dsimp only));at_builtin;refine Kd.R_append k40 (w0 := w) w.heap.size rfl (.tmp 69) (.tmp 74) 22 40 (.agg #[(.int .i64 0),(.int .u64 0)]) 16 rfl Tryd.underlying22 info40 rfl (by decide) q29_ u6 x6_2 (⟨(rd_T40 l0 x7_2).f0,(rd_T40 l0 x7_2).f1⟩ : S40) [.int .i64 ((rd_T40 l0 x7_2).f0),.int .u64 ((rd_T40 l0 x7_2).f1)] (fun _=>True) (fun _=>False) rfl rfl ?aP (fun _ hk=>hk.elim) ?aF ?aO ?aB ?aS ?aL ?_;(case aP=>exact k40_mkM _ _ _ (⟨(rd_T40 l0 x7_2).f0,(rd_T40 l0 x7_2).f1⟩ : S40));(case aB=>exact (bl_));(case aF=>exact (fun _ _=>trivial));(case aO=>exact q12_);(case aS=>exact (below_size (bl_)));(case aL=>have := LMc23.out;omega);intro v240 w24 ho hb hg hat;rw [← Ny239.out] at ho;have n0_ := Aside0.mk (hb);have n1_ := Aside0.mk (ho);clear HB;clear HO_6;have HB := n0_;have HO241 := n1_;clear n0_ n1_;clear ho hb hg hat))
                  repeat (go_quiet (first|((with_reducible refine gate_builtin (b := .append) (xs := #[.tmp 69,.tmp 74]) rfl ?_);(try (refine gate_guard (by rfl) ?_;dsimp only));at_builtin;refine Kd.R_append k40 (w0 := w) w.heap.size rfl (.tmp 69) (.tmp 74) 22 40 (.agg #[(.int .i64 0),(.int .u64 0)]) 16 rfl Tryd.underlying22 info40 rfl (by decide) q29_ u6 x6_2 (⟨(rd_T40 l0 x7_2).f0,(rd_T40 l0 x7_2).f1⟩ : S40) [.int .i64 ((rd_T40 l0 x7_2).f0),.int .u64 ((rd_T40 l0 x7_2).f1)] (fun _=>True) (fun _=>False) rfl rfl ?aP (fun _ hk=>hk.elim) ?aF ?aO ?aB ?aS ?aL ?_;(case aP=>exact k40_mkM _ _ _ (⟨(rd_T40 l0 x7_2).f0,(rd_T40 l0 x7_2).f1⟩ : S40));(case aB=>exact (bl_));(case aF=>exact (fun _ _=>trivial));(case aO=>exact q12_);(case aS=>exact (below_size (bl_)));(case aL=>have := LMc23.out;omega);intro v240 w24 ho hb hg hat;rw [← Ny239.out] at ho;have n0_ := Aside0.mk (hb);have n1_ := Aside0.mk (ho);clear HB;clear HO_6;have HB := n0_;have HO241 := n1_;clear n0_ n1_;clear ho hb hg hat));try go_wp2_with (first|((with_reducible refine gate_builtin (b := .append) (xs := #[.tmp 69,.tmp 74]) rfl ?_);(try (refine gate_guard (by rfl) ?_;dsimp only));at_builtin;refine Kd.R_append k40 (w0 := w) w.heap.size rfl (.tmp 69) (.tmp 74) 22 40 (.agg #[(.int .i64 0),(.int .u64 0)]) 16 rfl Tryd.underlying22 info40 rfl (by decide) q29_ u6 x6_2 (⟨(rd_T40 l0 x7_2).f0,(rd_T40 l0 x7_2).f1⟩ : S40) [.int .i64 ((rd_T40 l0 x7_2).f0),.int .u64 ((rd_T40 l0 x7_2).f1)] (fun _=>True) (fun _=>False) rfl rfl ?aP (fun _ hk=>hk.elim) ?aF ?aO ?aB ?aS ?aL ?_;(case aP=>exact k40_mkM _ _ _ (⟨(rd_T40 l0 x7_2).f0,(rd_T40 l0 x7_2).f1⟩ : S40));(case aB=>exact (bl_));(case aF=>exact (fun _ _=>trivial));(case aO=>exact q12_);(case aS=>exact (below_size (bl_)));(case aL=>have := LMc23.out;omega);intro v240 w24 ho hb hg hat;rw [← Ny239.out] at ho;have n0_ := Aside0.mk (hb);have n1_ := Aside0.mk (ho);clear HB;clear HO_6;have HB := n0_;have HO241 := n1_;clear n0_ n1_;clear ho hb hg hat)))
                  go_roundg kj10
                  case measure=>have := HJ2.out;have := HK2.out;have := HJ7.out;have := HJ10.out;omega
                  case rel=>exact ⟨(y239),(wrap64 (x7_2 + 1)),(wrap64 (x8_2 + 1)),q10_,q10_,H',⟨q50_⟩,⟨by (with_reducible repeat (first|apply Kd.R_alloc|apply Kd.R_drewN|apply Kd.R_drew));exact HO241.out⟩,⟨bl_⟩⟩
                 ·rw [if_neg c23] at H
                  exact absurd H (by simp)
                ·rw [if_neg c22] at H
                 have c22b0 : (((rd_T40 l0 x7_2).f0) == ((rd_T40 l1 x8_2).f0)) = false := beq_eq_false_iff_ne.mpr c22
                 have c22b1 : (((rd_T40 l0 x7_2).f0) != ((rd_T40 l1 x8_2).f0)) = true := bne_iff_ne.mpr c22
                 by_cases c25 : x6_2.length < 8796093022208
                 ·rw [if_pos c25] at H
                  have LMc25 := Aside0.mk c25
                  clear c25
                  obtain ⟨y243,hy243⟩ : ∃ y_ : List (S40),y_ = (x6_2 ++ [(⟨(rd_T40 l0 x7_2).f0,(rd_T40 l0 x7_2).f1⟩ : S40)]) := ⟨_,rfl⟩
                  replace H : (batonref22_Join.l0 kj10 l0 l1 y243 (wrap64 (x7_2 + 1)) x8_2) = some (r1,r2) := by first|(rw [hy243];with_reducible exact H)|(have H2_ := (Option.bind_some _ _).symm.trans H;rw [hy243];with_reducible exact H2_)|(have H2_ := (Option.bind_some _ _).symm.trans H;with_reducible exact H2_)|with_reducible exact H|(rw [hy243];exact H)|exact H
                  have Ny243 := Aside0.mk hy243
                  clear hy243
                  have H' := Aside0.mk H
                  clear H
                  have p236 : 0 ≤ (x7_2 : Int) := of_decide_eq_true q5_
                  have q236 : x7_2 < (l0.length : Int) := of_decide_eq_true q5_
                  obtain ⟨ad236,e236,hx236_0,hx236_1⟩ := at_T40 HR0.out x7_2 p236 q236
                  cases e236
                  replace hx236_0 := (HB.out.cell (World.block_lt_of_cell? w _ hx236_0)).trans hx236_0
                  replace hx236_1 := (HB.out.cell (World.block_lt_of_cell? w _ hx236_1)).trans hx236_1
                  replace p236 := eq_true p236
                  replace q236 := eq_true q236
                  have p237 : 0 ≤ (x8_2 : Int) := of_decide_eq_true q5_
                  have q237 : x8_2 < (l1.length : Int) := of_decide_eq_true q5_
                  obtain ⟨ad237,e237,hx237_0,hx237_1⟩ := at_T40 HR1.out x8_2 p237 q237
                  cases e237
                  replace hx237_0 := (HB.out.cell (World.block_lt_of_cell? w _ hx237_0)).trans hx237_0
                  replace hx237_1 := (HB.out.cell (World.block_lt_of_cell? w _ hx237_1)).trans hx237_1
                  replace p237 := eq_true p237
                  replace q237 := eq_true q237
                  have p242 : 0 ≤ (x7_2 : Int) := of_decide_eq_true q5_
                  have q242 : x7_2 < (l0.length : Int) := of_decide_eq_true q5_
                  obtain ⟨ad242,e242,hx242_0,hx242_1⟩ := at_T40 HR0.out x7_2 p242 q242
                  obtain rfl : ad236 = ad242 := (by injection e242)
                  replace hx242_0 := (HB.out.cell (World.block_lt_of_cell? w _ hx242_0)).trans hx242_0
                  replace hx242_1 := (HB.out.cell (World.block_lt_of_cell? w _ hx242_1)).trans hx242_1
                  replace p242 := eq_true p242
                  replace q242 := eq_true q242
                  go_wp2_with (first|((with_reducible refine gate_builtin (b := .append) (xs := #[.tmp 69,.tmp 74]) rfl ?_);(try (refine gate_guard (by rfl) ?_;dsimp only));at_builtin;refine Kd.R_append k40 (w0 := w) w.heap.size rfl (.tmp 69) (.tmp 74) 22 40 (.agg #[(.int .i64 0),(.int .u64 0)]) 16 rfl Tryd.underlying22 info40 rfl (by decide) q29_ u6 x6_2 (⟨(rd_T40 l0 x7_2).f0,(rd_T40 l0 x7_2).f1⟩ : S40) [.int .i64 ((rd_T40 l0 x7_2).f0),.int .u64 ((rd_T40 l0 x7_2).f1)] (fun _=>True) (fun _=>False) rfl rfl ?aP (fun _ hk=>hk.elim) ?aF ?aO ?aB ?aS ?aL ?_;(case aP=>exact k40_mkM _ _ _ (⟨(rd_T40 l0 x7_2).f0,(rd_T40 l0 x7_2).f1⟩ : S40));(case aB=>exact (bl_));(case aF=>exact (fun _ _=>trivial));(case aO=>exact q12_);(case aS=>exact (below_size (bl_)));(case aL=>have := LMc25.out;omega);intro v244 w26 ho hb hg hat;rw [← Ny243.out] at ho;have n0_ := Aside0.mk (hb);have n1_ := Aside0.mk (ho);clear HB;clear HO_6;have HB := n0_;have HO245 := n1_;clear n0_ n1_;clear ho hb hg hat))
                  repeat (go_quiet (first|((with_reducible refine gate_builtin (b := .append) (xs := #[.tmp 69,.tmp 74]) rfl ?_);(try (refine gate_guard (by rfl) ?_;dsimp only));at_builtin;refine Kd.R_append k40 (w0 := w) w.heap.size rfl (.tmp 69) (.tmp 74) 22 40 (.agg #[(.int .i64 0),(.int .u64 0)]) 16 rfl Tryd.underlying22 info40 rfl (by decide) q29_ u6 x6_2 (⟨(rd_T40 l0 x7_2).f0,(rd_T40 l0 x7_2).f1⟩ : S40) [.int .i64 ((rd_T40 l0 x7_2).f0),.int .u64 ((rd_T40 l0 x7_2).f1)] (fun _=>True) (fun _=>False) rfl rfl ?aP (fun _ hk=>hk.elim) ?aF ?aO ?aB ?aS ?aL ?_;(case aP=>exact k40_mkM _ _ _ (⟨(rd_T40 l0 x7_2).f0,(rd_T40 l0 x7_2).f1⟩ : S40));(case aB=>exact (bl_));(case aF=>exact (fun _ _=>trivial));(case aO=>exact q12_);(case aS=>exact (below_size (bl_)));(case aL=>have := LMc25.out;omega);intro v244 w26 ho hb hg hat;rw [← Ny243.out] at ho;have n0_ := Aside0.mk (hb);have n1_ := Aside0.mk (ho);clear HB;clear HO_6;have HB := n0_;have HO245 := n1_;clear n0_ n1_;clear ho hb hg hat));try go_wp2_with (first|((with_reducible refine gate_builtin (b := .append) (xs := #[.tmp 69,.tmp 74]) rfl ?_);(try (refine gate_guard (by rfl) ?_;dsimp only));at_builtin;refine Kd.R_append k40 (w0 := w) w.heap.size rfl (.tmp 69) (.tmp 74) 22 40 (.agg #[(.int .i64 0),(.int .u64 0)]) 16 rfl Tryd.underlying22 info40 rfl (by decide) q29_ u6 x6_2 (⟨(rd_T40 l0 x7_2).f0,(rd_T40 l0 x7_2).f1⟩ : S40) [.int .i64 ((rd_T40 l0 x7_2).f0),.int .u64 ((rd_T40 l0 x7_2).f1)] (fun _=>True) (fun _=>False) rfl rfl ?aP (fun _ hk=>hk.elim) ?aF ?aO ?aB ?aS ?aL ?_;(case aP=>exact k40_mkM _ _ _ (⟨(rd_T40 l0 x7_2).f0,(rd_T40 l0 x7_2).f1⟩ : S40));(case aB=>exact (bl_));(case aF=>exact (fun _ _=>trivial));(case aO=>exact q12_);(case aS=>exact (below_size (bl_)));(case aL=>have := LMc25.out;omega);intro v244 w26 ho hb hg hat;rw [← Ny243.out] at ho;have n0_ := Aside0.mk (hb);have n1_ := Aside0.mk (ho);clear HB;clear HO_6;have HB := n0_;have HO245 := n1_;clear n0_ n1_;clear ho hb hg hat)))
                  go_roundg kj10
                  case measure=>have := HJ2.out;have := HK2.out;have := HJ7.out;have := HJ10.out;omega
                  case rel=>exact ⟨(y243),(wrap64 (x7_2 + 1)),(x8_2),q10_,q10_,H',⟨q50_⟩,⟨by (with_reducible repeat (first|apply Kd.R_alloc|apply Kd.R_drewN|apply Kd.R_drew));exact HO245.out⟩,⟨bl_⟩⟩
                 ·rw [if_neg c25] at H
                  exact absurd H (by simp)
               ·rw [if_neg c21] at H
                exact absurd H (by simp)
              ·rw [if_neg c20] at H
               exact absurd H (by simp)
             ·rw [if_neg c19] at H
              exact absurd H (by simp)
            ·rw [if_neg c18] at H
             have c18b0 : decide (x8_2 < (l1.length : Int)) = false := decide_eq_false c18
             clear c18
             by_cases c27 : 0 ≤ x7_2
             ·rw [if_pos c27] at H
              have c27b0 : decide (0 ≤ x7_2) = true := decide_eq_true c27
              clear c27
              by_cases c28 : x7_2 < (l0.length : Int)
              ·rw [if_pos c28] at H
               have c28b0 : decide (x7_2 < (l0.length : Int)) = true := decide_eq_true c28
               clear c28
               by_cases c29 : x6_2.length < 8796093022208
               ·rw [if_pos c29] at H
                have LMc29 := Aside0.mk c29
                clear c29
                obtain ⟨y247,hy247⟩ : ∃ y_ : List (S40),y_ = (x6_2 ++ [(⟨(rd_T40 l0 x7_2).f0,(rd_T40 l0 x7_2).f1⟩ : S40)]) := ⟨_,rfl⟩
                replace H : (batonref22_Join.l0 kj10 l0 l1 y247 (wrap64 (x7_2 + 1)) x8_2) = some (r1,r2) := by first|(rw [hy247];with_reducible exact H)|(have H2_ := (Option.bind_some _ _).symm.trans H;rw [hy247];with_reducible exact H2_)|(have H2_ := (Option.bind_some _ _).symm.trans H;with_reducible exact H2_)|with_reducible exact H|(rw [hy247];exact H)|exact H
                have Ny247 := Aside0.mk hy247
                clear hy247
                have H' := Aside0.mk H
                clear H
                have p246 : 0 ≤ (x7_2 : Int) := of_decide_eq_true q5_
                have q246 : x7_2 < (l0.length : Int) := of_decide_eq_true q5_
                obtain ⟨ad246,e246,hx246_0,hx246_1⟩ := at_T40 HR0.out x7_2 p246 q246
                cases e246
                replace hx246_0 := (HB.out.cell (World.block_lt_of_cell? w _ hx246_0)).trans hx246_0
                replace hx246_1 := (HB.out.cell (World.block_lt_of_cell? w _ hx246_1)).trans hx246_1
                replace p246 := eq_true p246
                replace q246 := eq_true q246
                go_wp2_with (first|((with_reducible refine gate_builtin (b := .append) (xs := #[.tmp 69,.tmp 74]) rfl ?_);(try (refine gate_guard (by rfl) ?_;dsimp only));at_builtin;refine Kd.R_append k40 (w0 := w) w.heap.size rfl (.tmp 69) (.tmp 74) 22 40 (.agg #[(.int .i64 0),(.int .u64 0)]) 16 rfl Tryd.underlying22 info40 rfl (by decide) q29_ u6 x6_2 (⟨(rd_T40 l0 x7_2).f0,(rd_T40 l0 x7_2).f1⟩ : S40) [.int .i64 ((rd_T40 l0 x7_2).f0),.int .u64 ((rd_T40 l0 x7_2).f1)] (fun _=>True) (fun _=>False) rfl rfl ?aP (fun _ hk=>hk.elim) ?aF ?aO ?aB ?aS ?aL ?_;(case aP=>exact k40_mkM _ _ _ (⟨(rd_T40 l0 x7_2).f0,(rd_T40 l0 x7_2).f1⟩ : S40));(case aB=>exact (bl_));(case aF=>exact (fun _ _=>trivial));(case aO=>exact q12_);(case aS=>exact (below_size (bl_)));(case aL=>have := LMc29.out;omega);intro v248 w30 ho hb hg hat;rw [← Ny247.out] at ho;have n0_ := Aside0.mk (hb);have n1_ := Aside0.mk (ho);clear HB;clear HO_6;have HB := n0_;have HO249 := n1_;clear n0_ n1_;clear ho hb hg hat))
                repeat (go_quiet (first|((with_reducible refine gate_builtin (b := .append) (xs := #[.tmp 69,.tmp 74]) rfl ?_);(try (refine gate_guard (by rfl) ?_;dsimp only));at_builtin;refine Kd.R_append k40 (w0 := w) w.heap.size rfl (.tmp 69) (.tmp 74) 22 40 (.agg #[(.int .i64 0),(.int .u64 0)]) 16 rfl Tryd.underlying22 info40 rfl (by decide) q29_ u6 x6_2 (⟨(rd_T40 l0 x7_2).f0,(rd_T40 l0 x7_2).f1⟩ : S40) [.int .i64 ((rd_T40 l0 x7_2).f0),.int .u64 ((rd_T40 l0 x7_2).f1)] (fun _=>True) (fun _=>False) rfl rfl ?aP (fun _ hk=>hk.elim) ?aF ?aO ?aB ?aS ?aL ?_;(case aP=>exact k40_mkM _ _ _ (⟨(rd_T40 l0 x7_2).f0,(rd_T40 l0 x7_2).f1⟩ : S40));(case aB=>exact (bl_));(case aF=>exact (fun _ _=>trivial));(case aO=>exact q12_);(case aS=>exact (below_size (bl_)));(case aL=>have := LMc29.out;omega);intro v248 w30 ho hb hg hat;rw [← Ny247.out] at ho;have n0_ := Aside0.mk (hb);have n1_ := Aside0.mk (ho);clear HB;clear HO_6;have HB := n0_;have HO249 := n1_;clear n0_ n1_;clear ho hb hg hat));try go_wp2_with (first|((with_reducible refine gate_builtin (b := .append) (xs := #[.tmp 69,.tmp 74]) rfl ?_);(try (refine gate_guard (by rfl) ?_;dsimp only));at_builtin;refine Kd.R_append k40 (w0 := w) w.heap.size rfl (.tmp 69) (.tmp 74) 22 40 (.agg #[(.int .i64 0),(.int .u64 0)]) 16 rfl Tryd.underlying22 info40 rfl (by decide) q29_ u6 x6_2 (⟨(rd_T40 l0 x7_2).f0,(rd_T40 l0 x7_2).f1⟩ : S40) [.int .i64 ((rd_T40 l0 x7_2).f0),.int .u64 ((rd_T40 l0 x7_2).f1)] (fun _=>True) (fun _=>False) rfl rfl ?aP (fun _ hk=>hk.elim) ?aF ?aO ?aB ?aS ?aL ?_;(case aP=>exact k40_mkM _ _ _ (⟨(rd_T40 l0 x7_2).f0,(rd_T40 l0 x7_2).f1⟩ : S40));(case aB=>exact (bl_));(case aF=>exact (fun _ _=>trivial));(case aO=>exact q12_);(case aS=>exact (below_size (bl_)));(case aL=>have := LMc29.out;omega);intro v248 w30 ho hb hg hat;rw [← Ny247.out] at ho;have n0_ := Aside0.mk (hb);have n1_ := Aside0.mk (ho);clear HB;clear HO_6;have HB := n0_;have HO249 := n1_;clear n0_ n1_;clear ho hb hg hat)))
                go_roundg kj10
                case measure=>have := HJ2.out;have := HK2.out;have := HJ7.out;have := HJ10.out;omega
                case rel=>exact ⟨(y247),(wrap64 (x7_2 + 1)),(x8_2),q10_,q10_,H',⟨q50_⟩,⟨by (with_reducible repeat (first|apply Kd.R_alloc|apply Kd.R_drewN|apply Kd.R_drew));exact HO249.out⟩,⟨bl_⟩⟩
               ·rw [if_neg c29] at H
                exact absurd H (by simp)
              ·rw [if_neg c28] at H
               exact absurd H (by simp)
             ·rw [if_neg c27] at H
              exact absurd H (by simp)
           ·replace c17 := Bool.eq_false_iff.mpr c17
            subst c17
            have H1 : (if 0 ≤ x8_2 then (if x8_2 < (l1.length : Int) then (if x6_2.length < 8796093022208 then (batonref22_Join.l0 kj10 l0 l1 (x6_2 ++ [(⟨(rd_T40 l1 x8_2).f0,(rd_T40 l1 x8_2).f1⟩ : S40)]) x7_2 (wrap64 (x8_2 + 1))) else (none)) else (none)) else (none)) = some (r1,r2) := by rw [if_neg (show ¬ (false = true) by decide)] at H;exact H
            clear H
            have H := H1
            clear H1
            by_cases c31 : 0 ≤ x8_2
            ·rw [if_pos c31] at H
             have c31b0 : decide (0 ≤ x8_2) = true := decide_eq_true c31
             clear c31
             by_cases c32 : x8_2 < (l1.length : Int)
             ·rw [if_pos c32] at H
              have c32b0 : decide (x8_2 < (l1.length : Int)) = true := decide_eq_true c32
              clear c32
              by_cases c33 : x6_2.length < 8796093022208
              ·rw [if_pos c33] at H
               have LMc33 := Aside0.mk c33
               clear c33
               obtain ⟨y251,hy251⟩ : ∃ y_ : List (S40),y_ = (x6_2 ++ [(⟨(rd_T40 l1 x8_2).f0,(rd_T40 l1 x8_2).f1⟩ : S40)]) := ⟨_,rfl⟩
               replace H : (batonref22_Join.l0 kj10 l0 l1 y251 x7_2 (wrap64 (x8_2 + 1))) = some (r1,r2) := by first|(rw [hy251];with_reducible exact H)|(have H2_ := (Option.bind_some _ _).symm.trans H;rw [hy251];with_reducible exact H2_)|(have H2_ := (Option.bind_some _ _).symm.trans H;with_reducible exact H2_)|with_reducible exact H|(rw [hy251];exact H)|exact H
               have Ny251 := Aside0.mk hy251
               clear hy251
               have H' := Aside0.mk H
               clear H
               have p250 : 0 ≤ (x8_2 : Int) := of_decide_eq_true q5_
               have q250 : x8_2 < (l1.length : Int) := of_decide_eq_true q5_
               obtain ⟨ad250,e250,hx250_0,hx250_1⟩ := at_T40 HR1.out x8_2 p250 q250
               cases e250
               replace hx250_0 := (HB.out.cell (World.block_lt_of_cell? w _ hx250_0)).trans hx250_0
               replace hx250_1 := (HB.out.cell (World.block_lt_of_cell? w _ hx250_1)).trans hx250_1
               replace p250 := eq_true p250
               replace q250 := eq_true q250
               go_wp2_with (first|((with_reducible refine gate_builtin (b := .append) (xs := #[.tmp 78,.tmp 83]) rfl ?_);(try (refine gate_guard (by rfl) ?_;dsimp only));at_builtin;refine Kd.R_append k40 (w0 := w) w.heap.size rfl (.tmp 78) (.tmp 83) 22 40 (.agg #[(.int .i64 0),(.int .u64 0)]) 16 rfl Tryd.underlying22 info40 rfl (by decide) q29_ u6 x6_2 (⟨(rd_T40 l1 x8_2).f0,(rd_T40 l1 x8_2).f1⟩ : S40) [.int .i64 ((rd_T40 l1 x8_2).f0),.int .u64 ((rd_T40 l1 x8_2).f1)] (fun _=>True) (fun _=>False) rfl rfl ?aP (fun _ hk=>hk.elim) ?aF ?aO ?aB ?aS ?aL ?_;(case aP=>exact k40_mkM _ _ _ (⟨(rd_T40 l1 x8_2).f0,(rd_T40 l1 x8_2).f1⟩ : S40));(case aB=>exact (bl_));(case aF=>exact (fun _ _=>trivial));(case aO=>exact q12_);(case aS=>exact (below_size (bl_)));(case aL=>have := LMc33.out;omega);intro v252 w34 ho hb hg hat;rw [← Ny251.out] at ho;have n0_ := Aside0.mk (hb);have n1_ := Aside0.mk (ho);clear HB;clear HO_6;have HB := n0_;have HO253 := n1_;clear n0_ n1_;clear ho hb hg hat))
               repeat (go_quiet (first|((with_reducible refine gate_builtin (b := .append) (xs := #[.tmp 78,.tmp 83]) rfl ?_);(try (refine gate_guard (by rfl) ?_;dsimp only));at_builtin;refine Kd.R_append k40 (w0 := w) w.heap.size rfl (.tmp 78) (.tmp 83) 22 40 (.agg #[(.int .i64 0),(.int .u64 0)]) 16 rfl Tryd.underlying22 info40 rfl (by decide) q29_ u6 x6_2 (⟨(rd_T40 l1 x8_2).f0,(rd_T40 l1 x8_2).f1⟩ : S40) [.int .i64 ((rd_T40 l1 x8_2).f0),.int .u64 ((rd_T40 l1 x8_2).f1)] (fun _=>True) (fun _=>False) rfl rfl ?aP (fun _ hk=>hk.elim) ?aF ?aO ?aB ?aS ?aL ?_;(case aP=>exact k40_mkM _ _ _ (⟨(rd_T40 l1 x8_2).f0,(rd_T40 l1 x8_2).f1⟩ : S40));(case aB=>exact (bl_));(case aF=>exact (fun _ _=>trivial));(case aO=>exact q12_);(case aS=>exact (below_size (bl_)));(case aL=>have := LMc33.out;omega);intro v252 w34 ho hb hg hat;rw [← Ny251.out] at ho;have n0_ := Aside0.mk (hb);have n1_ := Aside0.mk (ho);clear HB;clear HO_6;have HB := n0_;have HO253 := n1_;clear n0_ n1_;clear ho hb hg hat));try go_wp2_with (first|((with_reducible refine gate_builtin (b := .append) (xs := #[.tmp 78,.tmp 83]) rfl ?_);(try (refine gate_guard (by rfl) ?_;dsimp only));at_builtin;refine Kd.R_append k40 (w0 := w) w.heap.size rfl (.tmp 78) (.tmp 83) 22 40 (.agg #[(.int .i64 0),(.int .u64 0)]) 16 rfl Tryd.underlying22 info40 rfl (by decide) q29_ u6 x6_2 (⟨(rd_T40 l1 x8_2).f0,(rd_T40 l1 x8_2).f1⟩ : S40) [.int .i64 ((rd_T40 l1 x8_2).f0),.int .u64 ((rd_T40 l1 x8_2).f1)] (fun _=>True) (fun _=>False) rfl rfl ?aP (fun _ hk=>hk.elim) ?aF ?aO ?aB ?aS ?aL ?_;(case aP=>exact k40_mkM _ _ _ (⟨(rd_T40 l1 x8_2).f0,(rd_T40 l1 x8_2).f1⟩ : S40));(case aB=>exact (bl_));(case aF=>exact (fun _ _=>trivial));(case aO=>exact q12_);(case aS=>exact (below_size (bl_)));(case aL=>have := LMc33.out;omega);intro v252 w34 ho hb hg hat;rw [← Ny251.out] at ho;have n0_ := Aside0.mk (hb);have n1_ := Aside0.mk (ho);clear HB;clear HO_6;have HB := n0_;have HO253 := n1_;clear n0_ n1_;clear ho hb hg hat)))
               go_roundg kj10
               case measure=>have := HJ2.out;have := HK2.out;have := HJ7.out;have := HJ10.out;omega
               case rel=>exact ⟨(y251),(x7_2),(wrap64 (x8_2 + 1)),q10_,q10_,H',⟨q50_⟩,⟨by (with_reducible repeat (first|apply Kd.R_alloc|apply Kd.R_drewN|apply Kd.R_drew));exact HO253.out⟩,⟨bl_⟩⟩
              ·rw [if_neg c33] at H
               exact absurd H (by simp)
             ·rw [if_neg c32] at H
              exact absurd H (by simp)
            ·rw [if_neg c31] at H
             exact absurd H (by simp)
        ·replace c10 := Bool.eq_false_iff.mpr c10
         subst c10
         have H1 : (some (x6_2,0)) = some (r1,r2) := by rw [if_neg (show ¬ (false = true) by decide)] at H;exact H
         clear H
         have H := H1
         clear H1
         simp only [Option.some.injEq,Prod.mk.injEq] at H
         obtain ⟨rfl,rfl⟩ := H
         go_wp2
         repeat (go_quiet (fail);try go_wp2)
         go_ret2
         exact ⟨_,q9_,q12_,bl_⟩

end Go.Proofs.YtbedpnklnamnhaaDoor.PF

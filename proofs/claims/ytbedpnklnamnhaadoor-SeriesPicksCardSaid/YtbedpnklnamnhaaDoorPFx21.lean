/- The machine side of these statements: what each Go function computes as a plain function, and that its call computes just that. Written by a program of mine (wip/drive.py). No conditions. -/
import Derived.Test.YtbedpnklnamnhaaDoorPFx0
import Derived.Test.YtbedpnklnamnhaaDoorPFx5
import Derived.Test.YtbedpnklnamnhaaDoorPFx11
import Derived.Test.YtbedpnklnamnhaaDoorPFx13
import Derived.Test.YtbedpnklnamnhaaDoorPFx15
import Derived.Test.YtbedpnklnamnhaaDoorPFx16
import Derived.Test.YtbedpnklnamnhaaDoorPFx17
import Derived.Test.YtbedpnklnamnhaaDoorPFx18
import Derived.Test.YtbedpnklnamnhaaDoorPFx19
import Derived.Test.YtbedpnklnamnhaaDoorPFx20
namespace Go.Proofs.YtbedpnklnamnhaaDoor.PF
open Go.RowKit Go.Proofs.YtbedpnklnamnhaaDoorW.PrintWords Go.Proofs.YtbedpnklnamnhaaDoorW.PrintLast Go.Proofs.YtbedpnklnamnhaaDoorW.PrintMore
attribute [local go_sem] max2_int min2_int max_two min_two max_three min_three max_four min_four   -- for this text's walks alone
set_option linter.unusedVariables false
set_option linter.unusedSimpArgs false

/-! ### batonlaw22_SeriesPicks: function 3 -/
mutual
def batonlaw22_SeriesPicks.j0 : Nat → List (S40) → List (S40) → Int → Int → List Int → Bool → Option (Bool)
 | 0,_,_,_,_,_,_=>none
 | k + 1,x0,x1,x2,x3,x4,x37=>if x37 = true then ((batonlaw22_awake.f k).bind fun t296=>(some t296)) else ((series_Between.f k x0 x2 x3).bind fun bt297=>((batonref22_Between.f k x0 x2 x3).bind fun bt301=>((series_Join.f k x0 x1).bind fun bt305=>((batonref22_Join.f k x0 x1).bind fun bt309=>((batonref22_Same.f k bt297.1 bt301.1).bind fun t313=>(if t313 = true then (if bt297.2 = bt301.2 then ((batonref22_Same.f k bt305.1 bt309.1).bind fun t314=>(if t314 = true then (batonlaw22_SeriesPicks.j1 k x4 bt305.1 (bt305.2 != bt309.2)) else (batonlaw22_SeriesPicks.j1 k x4 bt305.1 true))) else (batonlaw22_SeriesPicks.j1 k x4 bt305.1 true)) else (batonlaw22_SeriesPicks.j1 k x4 bt305.1 true)))))))
def batonlaw22_SeriesPicks.j1 : Nat → List Int → List (S40) → Bool → Option (Bool)
 | 0,_,_,_=>none
 | k + 1,x4,x15,x84=>if x84 = true then (none) else (batonlaw22_SeriesPicks.l0 k x4 x15 ([] : List Int) 0)
def batonlaw22_SeriesPicks.l0 : Nat → List Int → List (S40) → List Int → Int → Option (Bool)
 | 0,_,_,_,_=>none
 | k + 1,x4,x15,x19,x20=>if x20 < (x4.length : Int) then (if 0 ≤ x20 then (if x19.length < 140737488355328 then ((some (x19 ++ [rd x4 x20] : List Int)).bind fun y316=>(if x20 < (y316.length : Int) then ((series_Verdict_String.f (rd y316 x20)).bind fun t320=>((batonref22_Word.f k (rd x4 x20)).bind fun t322=>(if t320.toList = t322.toList then ((series_Verdict_Bad.f (rd y316 x20)).bind fun t324=>(if (rd x4 x20) = 3 then (if (t324 != true) = true then (none) else (batonlaw22_SeriesPicks.l0 k x4 x15 y316 (wrap64 (x20 + 1)))) else (if (t324 != ((rd x4 x20) == 4)) = true then (none) else (batonlaw22_SeriesPicks.l0 k x4 x15 y316 (wrap64 (x20 + 1)))))) else (none)))) else (none))) else (none)) else (none)) else ((series_Count.f x19).bind fun bt327=>((batonref22_Count.f k x4).bind fun t333=>(if 0 < (t333.length : Int) then (if bt327.1 = (rd t333 0) then (if 1 < (t333.length : Int) then (if bt327.2.1 = (rd t333 1) then (if 2 < (t333.length : Int) then (if bt327.2.2.1 = (rd t333 2) then (if 3 < (t333.length : Int) then (if bt327.2.2.2.1 = (rd t333 3) then (if 4 < (t333.length : Int) then (if bt327.2.2.2.2 = (rd t333 4) then (batonlaw22_SeriesPicks.l2 k x15 0) else (none)) else (none)) else (none)) else (none)) else (none)) else (none)) else (none)) else (none)) else (none)) else (none))))
def batonlaw22_SeriesPicks.l2 : Nat → List (S40) → Int → Option (Bool)
 | 0,_,_=>none
 | k + 1,x15,x24=>if x24 < (x15.length : Int) then (if 0 ≤ x24 then (batonlaw22_SeriesPicks.l2 k (x15.set (x24 : Int).toNat (⟨(-7),(rd_T40 x15 x24).f1⟩ : S40)) (wrap64 (x24 + 1))) else (none)) else ((batonlaw22_awake.f k).bind fun t342=>(some t342))
end
def batonlaw22_SeriesPicks.f (k : Nat) (l0 : List (S40)) (l1 : List (S40)) (a2 : Int) (a3 : Int) (l4 : List Int) : Option (Bool) := if (l0.length : Int) > 1000 then (batonlaw22_SeriesPicks.j0 k l0 l1 a2 a3 l4 true) else (if (l1.length : Int) > 1000 then (batonlaw22_SeriesPicks.j0 k l0 l1 a2 a3 l4 true) else (batonlaw22_SeriesPicks.j0 k l0 l1 a2 a3 l4 (decide ((l4.length : Int) > 1000))))
theorem batonlaw22_SeriesPicks.mono_l : ∀ k, (∀ y0 y1 y2 y3 y4 y5, LeO (batonlaw22_SeriesPicks.j0 k y0 y1 y2 y3 y4 y5) (batonlaw22_SeriesPicks.j0 (k + 1) y0 y1 y2 y3 y4 y5)) ∧ (∀ y0 y1 y2, LeO (batonlaw22_SeriesPicks.j1 k y0 y1 y2) (batonlaw22_SeriesPicks.j1 (k + 1) y0 y1 y2)) ∧ (∀ y0 y1 y2 y3, LeO (batonlaw22_SeriesPicks.l0 k y0 y1 y2 y3) (batonlaw22_SeriesPicks.l0 (k + 1) y0 y1 y2 y3)) ∧ (∀ y0 y1, LeO (batonlaw22_SeriesPicks.l2 k y0 y1) (batonlaw22_SeriesPicks.l2 (k + 1) y0 y1))
 | 0=>⟨fun _ _ _ _ _ _ r h=>by simp [batonlaw22_SeriesPicks.j0] at h,fun _ _ _ r h=>by simp [batonlaw22_SeriesPicks.j1] at h,fun _ _ _ _ r h=>by simp [batonlaw22_SeriesPicks.l0] at h,fun _ _ r h=>by simp [batonlaw22_SeriesPicks.l2] at h⟩
 | k + 1=>by
  obtain ⟨ih0,ih1,ih2,ih3⟩ := batonlaw22_SeriesPicks.mono_l k
  refine ⟨?_,?_,?_,?_⟩
  ·intro y0 y1 y2 y3 y4 y5
   unfold batonlaw22_SeriesPicks.j0
   repeat' first
   | (with_reducible exact ih0 _ _ _ _ _ _)
   | (with_reducible exact ih1 _ _ _)
   | (with_reducible exact ih2 _ _ _ _)
   | (with_reducible exact ih3 _ _)
   | (with_reducible exact batonlaw22_awake.mono _)
   | (with_reducible exact batonref22_Between.mono _ _ _ _)
   | (with_reducible exact batonref22_Count.mono _ _)
   | (with_reducible exact batonref22_Join.mono _ _ _)
   | (with_reducible exact batonref22_Same.mono _ _ _)
   | (with_reducible exact batonref22_Word.mono _ _)
   | (with_reducible exact series_Between.mono _ _ _ _)
   | (with_reducible exact series_Join.mono _ _ _)
   | (with_reducible exact LeO.refl _)
   | (with_reducible exact LeO.none _)
   | (with_reducible refine LeO.ite ?_ ?_)
   | (with_reducible refine LeO.bind ?_ (fun _=>?_))
   | exact ih0 _ _ _ _ _ _
   | exact ih1 _ _ _
   | exact ih2 _ _ _ _
   | exact ih3 _ _
   | exact batonlaw22_awake.mono _
   | exact batonref22_Between.mono _ _ _ _
   | exact batonref22_Count.mono _ _
   | exact batonref22_Join.mono _ _ _
   | exact batonref22_Same.mono _ _ _
   | exact batonref22_Word.mono _ _
   | exact series_Between.mono _ _ _ _
   | exact series_Join.mono _ _ _
   | exact LeO.none _
   | refine LeO.ite ?_ ?_
   | refine LeO.bind ?_ (fun _=>?_)
  ·intro y0 y1 y2
   unfold batonlaw22_SeriesPicks.j1
   repeat' first
   | (with_reducible exact ih0 _ _ _ _ _ _)
   | (with_reducible exact ih1 _ _ _)
   | (with_reducible exact ih2 _ _ _ _)
   | (with_reducible exact ih3 _ _)
   | (with_reducible exact batonlaw22_awake.mono _)
   | (with_reducible exact batonref22_Between.mono _ _ _ _)
   | (with_reducible exact batonref22_Count.mono _ _)
   | (with_reducible exact batonref22_Join.mono _ _ _)
   | (with_reducible exact batonref22_Same.mono _ _ _)
   | (with_reducible exact batonref22_Word.mono _ _)
   | (with_reducible exact series_Between.mono _ _ _ _)
   | (with_reducible exact series_Join.mono _ _ _)
   | (with_reducible exact LeO.refl _)
   | (with_reducible exact LeO.none _)
   | (with_reducible refine LeO.ite ?_ ?_)
   | (with_reducible refine LeO.bind ?_ (fun _=>?_))
   | exact ih0 _ _ _ _ _ _
   | exact ih1 _ _ _
   | exact ih2 _ _ _ _
   | exact ih3 _ _
   | exact batonlaw22_awake.mono _
   | exact batonref22_Between.mono _ _ _ _
   | exact batonref22_Count.mono _ _
   | exact batonref22_Join.mono _ _ _
   | exact batonref22_Same.mono _ _ _
   | exact batonref22_Word.mono _ _
   | exact series_Between.mono _ _ _ _
   | exact series_Join.mono _ _ _
   | exact LeO.none _
   | refine LeO.ite ?_ ?_
   | refine LeO.bind ?_ (fun _=>?_)
  ·intro y0 y1 y2 y3
   unfold batonlaw22_SeriesPicks.l0
   repeat' first
   | (with_reducible exact ih0 _ _ _ _ _ _)
   | (with_reducible exact ih1 _ _ _)
   | (with_reducible exact ih2 _ _ _ _)
   | (with_reducible exact ih3 _ _)
   | (with_reducible exact batonlaw22_awake.mono _)
   | (with_reducible exact batonref22_Between.mono _ _ _ _)
   | (with_reducible exact batonref22_Count.mono _ _)
   | (with_reducible exact batonref22_Join.mono _ _ _)
   | (with_reducible exact batonref22_Same.mono _ _ _)
   | (with_reducible exact batonref22_Word.mono _ _)
   | (with_reducible exact series_Between.mono _ _ _ _)
   | (with_reducible exact series_Join.mono _ _ _)
   | (with_reducible exact LeO.refl _)
   | (with_reducible exact LeO.none _)
   | (with_reducible refine LeO.ite ?_ ?_)
   | (with_reducible refine LeO.bind ?_ (fun _=>?_))
   | exact ih0 _ _ _ _ _ _
   | exact ih1 _ _ _
   | exact ih2 _ _ _ _
   | exact ih3 _ _
   | exact batonlaw22_awake.mono _
   | exact batonref22_Between.mono _ _ _ _
   | exact batonref22_Count.mono _ _
   | exact batonref22_Join.mono _ _ _
   | exact batonref22_Same.mono _ _ _
   | exact batonref22_Word.mono _ _
   | exact series_Between.mono _ _ _ _
   | exact series_Join.mono _ _ _
   | exact LeO.none _
   | refine LeO.ite ?_ ?_
   | refine LeO.bind ?_ (fun _=>?_)
  ·intro y0 y1
   unfold batonlaw22_SeriesPicks.l2
   repeat' first
   | (with_reducible exact ih0 _ _ _ _ _ _)
   | (with_reducible exact ih1 _ _ _)
   | (with_reducible exact ih2 _ _ _ _)
   | (with_reducible exact ih3 _ _)
   | (with_reducible exact batonlaw22_awake.mono _)
   | (with_reducible exact batonref22_Between.mono _ _ _ _)
   | (with_reducible exact batonref22_Count.mono _ _)
   | (with_reducible exact batonref22_Join.mono _ _ _)
   | (with_reducible exact batonref22_Same.mono _ _ _)
   | (with_reducible exact batonref22_Word.mono _ _)
   | (with_reducible exact series_Between.mono _ _ _ _)
   | (with_reducible exact series_Join.mono _ _ _)
   | (with_reducible exact LeO.refl _)
   | (with_reducible exact LeO.none _)
   | (with_reducible refine LeO.ite ?_ ?_)
   | (with_reducible refine LeO.bind ?_ (fun _=>?_))
   | exact ih0 _ _ _ _ _ _
   | exact ih1 _ _ _
   | exact ih2 _ _ _ _
   | exact ih3 _ _
   | exact batonlaw22_awake.mono _
   | exact batonref22_Between.mono _ _ _ _
   | exact batonref22_Count.mono _ _
   | exact batonref22_Join.mono _ _ _
   | exact batonref22_Same.mono _ _ _
   | exact batonref22_Word.mono _ _
   | exact series_Between.mono _ _ _ _
   | exact series_Join.mono _ _ _
   | exact LeO.none _
   | refine LeO.ite ?_ ?_
   | refine LeO.bind ?_ (fun _=>?_)
theorem batonlaw22_SeriesPicks.mono : ∀ a0 a1 a2 a3 a4 k, LeO (batonlaw22_SeriesPicks.f k a0 a1 a2 a3 a4) (batonlaw22_SeriesPicks.f (k + 1) a0 a1 a2 a3 a4) := by
 intro a0 a1 a2 a3 a4 k
 obtain ⟨ih0,ih1,ih2,ih3⟩ := batonlaw22_SeriesPicks.mono_l k
 unfold batonlaw22_SeriesPicks.f
 repeat' first
   | (with_reducible exact ih0 _ _ _ _ _ _)
   | (with_reducible exact ih1 _ _ _)
   | (with_reducible exact ih2 _ _ _ _)
   | (with_reducible exact ih3 _ _)
   | (with_reducible exact batonlaw22_awake.mono _)
   | (with_reducible exact batonref22_Between.mono _ _ _ _)
   | (with_reducible exact batonref22_Count.mono _ _)
   | (with_reducible exact batonref22_Join.mono _ _ _)
   | (with_reducible exact batonref22_Same.mono _ _ _)
   | (with_reducible exact batonref22_Word.mono _ _)
   | (with_reducible exact series_Between.mono _ _ _ _)
   | (with_reducible exact series_Join.mono _ _ _)
   | (with_reducible exact LeO.refl _)
   | (with_reducible exact LeO.none _)
   | (with_reducible refine LeO.ite ?_ ?_)
   | (with_reducible refine LeO.bind ?_ (fun _=>?_))
   | exact ih0 _ _ _ _ _ _
   | exact ih1 _ _ _
   | exact ih2 _ _ _ _
   | exact ih3 _ _
   | exact batonlaw22_awake.mono _
   | exact batonref22_Between.mono _ _ _ _
   | exact batonref22_Count.mono _ _
   | exact batonref22_Join.mono _ _ _
   | exact batonref22_Same.mono _ _ _
   | exact batonref22_Word.mono _ _
   | exact series_Between.mono _ _ _ _
   | exact series_Join.mono _ _ _
   | exact LeO.none _
   | refine LeO.ite ?_ ?_
   | refine LeO.bind ?_ (fun _=>?_)
def batonlaw22_SeriesPicks.T14 : Bool × List (List Nat × List Nat) := (true, [([], []), ([], []), ([0, 1], [0, 1]), ([2], [2]), ([3], [3]), ([], []), ([], []), ([5, 6], [5, 6]), ([7], [7]), ([8, 4], [8]), ([4, 9], [4, 9]), ([10, 9], [10]), ([11], [11]), ([11], [11]), ([12, 13, 11], [11, 12, 13]), ([14, 11], [11, 14]), ([15, 11, 11], [11, 15]), ([11], [11]), ([11], [11]), ([17, 18, 11], [11, 17, 18]), ([19, 11], [11, 19]), ([20, 11], [11, 20]), ([21, 16, 11], [11, 21]), ([22], [22]), ([22], [22]), ([23, 24, 22], [22, 23, 24]), ([25, 22], [22, 25]), ([26, 22], [22, 26]), ([22, 27, 11], [11, 22, 27]), ([16, 28, 11], [11, 16, 28]), ([11, 29], [11, 29])])
def batonlaw22_SeriesPicks.B14 : List Nat := [0, 0, 3, 7, 15, 0, 0, 96, 224, 511, 1023, 2047, 4095, 4095, 16383, 32767, 65535, 4095, 4095, 397311, 921599, 1970175, 4194303, 8388607, 8388607, 33554431, 67108863, 134217727, 268435455, 536870911, 1073741823]
theorem batonlaw22_SeriesPicks.tab14 : rtab .any (opsOf Tryd.f3 14) = batonlaw22_SeriesPicks.T14 := by kernel_rfl
theorem batonlaw22_SeriesPicks.bits14 : waitsOk batonlaw22_SeriesPicks.T14.2 batonlaw22_SeriesPicks.B14 = true := by kernel_rfl
def batonlaw22_SeriesPicks.T21 : Bool × List (List Nat × List Nat) := (true, [([], []), ([0], [0]), ([1], [1]), ([], []), ([], []), ([3, 4], [3, 4]), ([5], [5]), ([2, 6], [2, 6])])
def batonlaw22_SeriesPicks.B21 : List Nat := [0, 1, 3, 0, 0, 24, 56, 127]
theorem batonlaw22_SeriesPicks.tab21 : rtab .any (opsOf Tryd.f3 21) = batonlaw22_SeriesPicks.T21 := by kernel_rfl
theorem batonlaw22_SeriesPicks.bits21 : waitsOk batonlaw22_SeriesPicks.T21.2 batonlaw22_SeriesPicks.B21 = true := by kernel_rfl
set_option maxHeartbeats 8000000 in
set_option maxRecDepth 100000 in
theorem batonlaw22_SeriesPicks.calls (k : Nat) (A0 : Option Addr) (c0 : Nat) (l0 : List (S40)) (A1 : Option Addr) (c1 : Nat) (l1 : List (S40)) (a2 : Int) (a3 : Int) (A4 : Option Addr) (c4 : Nat) (l4 : List Int) (r : Bool) (w : World) (hr0 : Kd.C k40 w A0 l0.length l0) (hc0 : l0.length ≤ c0) (hr1 : Kd.C k40 w A1 l1.length l1) (hc1 : l1.length ≤ c1) (hr4 : Kd.C (Kd.int .u8) w A4 l4.length l4) (hc4 : l4.length ≤ c4) (h : batonlaw22_SeriesPicks.f k l0 l1 a2 a3 l4 = some r) (hG : VarsG w) :
  Calls Tryd.prog 3 #[.slice A0 l0.length c0,.slice A1 l1.length c1,.int .i64 a2,.int .i64 a3,.slice A4 l4.length c4] w fun e w'=>e = .returned (.bool r) ∧ Below w.heap.size w w' := by
 have hu34 := Tryd.underlying34
 have HR0 := Aside0.mk hr0
 have HC0 := Aside0.mk hc0
 clear hr0 hc0
 have HR1 := Aside0.mk hr1
 have HC1 := Aside0.mk hc1
 clear hr1 hc1
 have HR4 := Aside0.mk hr4
 have HC4 := Aside0.mk hc4
 clear hr4 hc4
 have HB := Aside0.mk (Below.refl w.heap.size w)
 have HG := Aside0.mk hG
 clear hG
 have H : (if (l0.length : Int) > 1000 then (batonlaw22_SeriesPicks.j0 k l0 l1 a2 a3 l4 true) else (if (l1.length : Int) > 1000 then (batonlaw22_SeriesPicks.j0 k l0 l1 a2 a3 l4 true) else (batonlaw22_SeriesPicks.j0 k l0 l1 a2 a3 l4 (decide ((l4.length : Int) > 1000))))) = some r := h
 clear h
 have HC6 := Aside0.mk H
 clear H
 go_enter Tryd.func3,Tryd.ntmps3
 go_upto_region 1 with (fail)
 go_cut [37] (fun v37 wc=>∃ (kq : Nat) (x37_5 : Bool),v37 = .bool x37_5 ∧ Aside0 (batonlaw22_SeriesPicks.j0 kq l0 l1 a2 a3 l4 x37_5 = some r) ∧ Aside0 (kq ≤ k) ∧ Aside0 (Below w.heap.size w wc))
 case first =>
  have H := HC6.out
  clear HC6
  by_cases c7 : (l0.length : Int) > 1000
  ·rw [if_pos c7] at H
   have c7b0 : decide (1000 < (l0.length : Int)) = true := decide_eq_true c7
   have c7b1 : decide (1000 < l0.length) = true := decide_eq_true q29_
   clear c7
   (first|rw [c7b0]|(simp only [i64_w,i32_w];rw [c7b0])|skip)
   have H' := Aside0.mk H
   clear H
   go_wp2
   go_meet
   case rel=>exact ⟨_,(true),q10_,H',⟨q45_⟩,⟨bl_⟩⟩
  ·rw [if_neg c7] at H
   have c7b0 : decide (1000 < (l0.length : Int)) = false := decide_eq_false c7
   have c7b1 : decide (1000 < l0.length) = false := decide_eq_false q29_
   clear c7
   (first|rw [c7b0]|(simp only [i64_w,i32_w];rw [c7b0])|skip)
   by_cases c8 : (l1.length : Int) > 1000
   ·rw [if_pos c8] at H
    have c8b0 : decide (1000 < (l1.length : Int)) = true := decide_eq_true c8
    have c8b1 : decide (1000 < l1.length) = true := decide_eq_true q29_
    clear c8
    have H' := Aside0.mk H
    clear H
    go_wp2
    go_meet
    case rel=>exact ⟨_,(true),q10_,H',⟨q45_⟩,⟨bl_⟩⟩
   ·rw [if_neg c8] at H
    have c8b0 : decide (1000 < (l1.length : Int)) = false := decide_eq_false c8
    have c8b1 : decide (1000 < l1.length) = false := decide_eq_false q29_
    clear c8
    have H' := Aside0.mk H
    clear H
    go_wp2
    go_meet
    case rel=>exact ⟨_,(decide ((l4.length : Int) > 1000)),q10_,H',⟨q45_⟩,⟨bl_⟩⟩
 case rest =>
  clear HC6
  try clear c1
  try clear p2
  try clear c3
  try clear c4
  try clear c7
  try clear c7b0
  try clear c7b1
  try clear c8
  try clear c8b0
  try clear c8b1
  obtain ⟨kq,x37_5,rfl,HA,HJ5,HB⟩ := hcut
  cases kq with
  | zero=>exact absurd HA.out (by simp [batonlaw22_SeriesPicks.j0])
  | succ kj5 =>
   have H := HA.out
   clear HA
   simp only [batonlaw22_SeriesPicks.j0] at H
   by_cases c9 : x37_5 = true
   ·subst c9
    have H1 : ((batonlaw22_awake.f kj5).bind fun t296=>(some t296)) = some r := by rw [if_pos rfl] at H;exact H
    clear H
    have H := H1
    clear H1
    replace H := Option.bind_eq_some_iff.mp H
    obtain ⟨t296,A100,H⟩ := H
    replace H : (some t296) = some r := H
    have A10 := Aside0.mk A100
    clear A100
    obtain rfl := Option.some.inj H
    go_wp2_with (first|((with_reducible refine gate_callee (f := 5) rfl ?_);refine goesL_ (some 38) rfl rfl Tryd.func5 q11_ rfl #[] rfl q1_ ?_;(with_reducible refine (batonlaw22_awake.calls kj5  t296 _ A10.out).mono ?_);rintro e w11 ⟨rfl,hb⟩;refine ⟨_,rfl,?_⟩;have n0_ := Aside0.mk (below_step (bl_) hb);clear HB;have HB := n0_;clear n0_;(try clear hb);(try clear hb2);(try clear hk);(try clear hi)))
    go_ret
    exact ⟨q9_,bl_⟩
   ·replace c9 := Bool.eq_false_iff.mpr c9
    subst c9
    have H1 : ((series_Between.f kj5 l0 a2 a3).bind fun bt297=>((batonref22_Between.f kj5 l0 a2 a3).bind fun bt301=>((series_Join.f kj5 l0 l1).bind fun bt305=>((batonref22_Join.f kj5 l0 l1).bind fun bt309=>((batonref22_Same.f kj5 bt297.1 bt301.1).bind fun t313=>(if t313 = true then (if bt297.2 = bt301.2 then ((batonref22_Same.f kj5 bt305.1 bt309.1).bind fun t314=>(if t314 = true then (batonlaw22_SeriesPicks.j1 kj5 l4 bt305.1 (bt305.2 != bt309.2)) else (batonlaw22_SeriesPicks.j1 kj5 l4 bt305.1 true))) else (batonlaw22_SeriesPicks.j1 kj5 l4 bt305.1 true)) else (batonlaw22_SeriesPicks.j1 kj5 l4 bt305.1 true))))))) = some r := by rw [if_neg (show ¬ (false = true) by decide)] at H;exact H
    clear H
    have H := H1
    clear H1
    replace H := Option.bind_eq_some_iff.mp H
    obtain ⟨⟨t297,t298⟩,A120,H⟩ := H
    try dsimp only at H
    have A12 := Aside0.mk A120
    clear A120
    replace H := Option.bind_eq_some_iff.mp H
    obtain ⟨⟨t301,t302⟩,A130,H⟩ := H
    try dsimp only at H
    have A13 := Aside0.mk A130
    clear A130
    replace H := Option.bind_eq_some_iff.mp H
    obtain ⟨⟨t305,t306⟩,A140,H⟩ := H
    try dsimp only at H
    have A14 := Aside0.mk A140
    clear A140
    replace H := Option.bind_eq_some_iff.mp H
    obtain ⟨⟨t309,t310⟩,A150,H⟩ := H
    try dsimp only at H
    have A15 := Aside0.mk A150
    clear A150
    have HC16 := Aside0.mk H
    clear H
    go_upto_region 7 with (first|((with_reducible refine gate_callee (f := 6) rfl ?_);refine goesL_ (some 43) rfl rfl Tryd.func6 q11_ rfl #[.slice A0 l0.length c0,.int .i64 a2,.int .i64 a3] rfl q1_ ?_;(with_reducible refine (series_Between.calls kj5 _ _ l0 a2 a3 t297 t298 _ ?side1 ?side2 A12.out).mono ?_);(case side1=>repeat (first|exact (Kd.C_below HR0.out HB.out)|(with_reducible refine Kd.C_alloc ?_ _)|(with_reducible refine Kd.C_drewN ?_ _)|(with_reducible refine Kd.C_drew ?_)));(case side2=>exact HC0.out);rintro e w17 ⟨v299,rfl,ho0,hb⟩;refine ⟨_,rfl,?_⟩;have n0_ := Aside0.mk (Kd.R_lower ho0 (below_size (bl_)));have n1_ := Aside0.mk (below_step (bl_) hb);clear HB;have HO300 := n0_;have HB := n1_;clear n0_ n1_;(try clear hb);(try clear hb2);(try clear hk);(try clear hi);(try clear ho0))|((with_reducible refine gate_callee (f := 7) rfl ?_);refine goesL_ (some 50) rfl rfl Tryd.func7 q11_ rfl #[.slice A0 l0.length c0,.int .i64 a2,.int .i64 a3] rfl q1_ ?_;(with_reducible refine (batonref22_Between.calls kj5 _ _ l0 a2 a3 t301 t302 _ ?side1 ?side2 A13.out).mono ?_);(case side1=>repeat (first|exact (Kd.C_below HR0.out HB.out)|(with_reducible refine Kd.C_alloc ?_ _)|(with_reducible refine Kd.C_drewN ?_ _)|(with_reducible refine Kd.C_drew ?_)));(case side2=>exact HC0.out);rintro e w18 ⟨v303,rfl,ho0,hb⟩;refine ⟨_,rfl,?_⟩;have n0_ := Aside0.mk (Kd.R_elder' q32_ (Kd.R_base ho0) hb);have n1_ := Aside0.mk (Kd.R_lower (Kd.R_new' ho0 (Kd.R_lt q32_)) (below_size (bl_)));have n2_ := Aside0.mk (below_step (bl_) hb);clear HO300;clear HB;have HO300 := n0_;have HO304 := n1_;have HB := n2_;clear n0_ n1_ n2_;(try clear hb);(try clear hb2);(try clear hk);(try clear hi);(try clear ho0))|((with_reducible refine gate_callee (f := 8) rfl ?_);refine goesL_ (some 56) rfl rfl Tryd.func8 q11_ rfl #[.slice A0 l0.length c0,.slice A1 l1.length c1] rfl q1_ ?_;(with_reducible refine (series_Join.calls kj5 _ _ l0 _ _ l1 t305 t306 _ ?side1 ?side2 ?side3 ?side4 A14.out).mono ?_);(case side1=>repeat (first|exact (Kd.C_below HR0.out HB.out)|(with_reducible refine Kd.C_alloc ?_ _)|(with_reducible refine Kd.C_drewN ?_ _)|(with_reducible refine Kd.C_drew ?_)));(case side2=>exact HC0.out);(case side3=>repeat (first|exact (Kd.C_below HR1.out HB.out)|(with_reducible refine Kd.C_alloc ?_ _)|(with_reducible refine Kd.C_drewN ?_ _)|(with_reducible refine Kd.C_drew ?_)));(case side4=>exact HC1.out);rintro e w19 ⟨v307,rfl,ho0,hb⟩;refine ⟨_,rfl,?_⟩;have n0_ := Aside0.mk (Kd.R_elder' q32_ (Kd.R_base ho0) hb);have n1_ := Aside0.mk (Kd.R_elder' q47_ (Kd.R_base ho0) hb);have n2_ := Aside0.mk (Kd.R_lower (Kd.R_new' (Kd.R_new' ho0 (Kd.R_lt q32_)) (Kd.R_lt q47_)) (below_size (bl_)));have n3_ := Aside0.mk (below_step (bl_) hb);clear HO300;clear HO304;clear HB;have HO300 := n0_;have HO304 := n1_;have HO308 := n2_;have HB := n3_;clear n0_ n1_ n2_ n3_;(try clear hb);(try clear hb2);(try clear hk);(try clear hi);(try clear ho0))|((with_reducible refine gate_callee (f := 9) rfl ?_);refine goesL_ (some 62) rfl rfl Tryd.func9 q11_ rfl #[.slice A0 l0.length c0,.slice A1 l1.length c1] rfl q1_ ?_;(with_reducible refine (batonref22_Join.calls kj5 _ _ l0 _ _ l1 t309 t310 _ ?side1 ?side2 ?side3 ?side4 A15.out).mono ?_);(case side1=>repeat (first|exact (Kd.C_below HR0.out HB.out)|(with_reducible refine Kd.C_alloc ?_ _)|(with_reducible refine Kd.C_drewN ?_ _)|(with_reducible refine Kd.C_drew ?_)));(case side2=>exact HC0.out);(case side3=>repeat (first|exact (Kd.C_below HR1.out HB.out)|(with_reducible refine Kd.C_alloc ?_ _)|(with_reducible refine Kd.C_drewN ?_ _)|(with_reducible refine Kd.C_drew ?_)));(case side4=>exact HC1.out);rintro e w20 ⟨v311,rfl,ho0,hb⟩;refine ⟨_,rfl,?_⟩;have n0_ := Aside0.mk (Kd.R_elder' q32_ (Kd.R_base ho0) hb);have n1_ := Aside0.mk (Kd.R_elder' q47_ (Kd.R_base ho0) hb);have n2_ := Aside0.mk (Kd.R_elder' (by (with_reducible repeat (first|apply Kd.R_alloc|apply Kd.R_drewN|apply Kd.R_drew));exact HO308.out) (Kd.R_base ho0) hb);have n3_ := Aside0.mk (Kd.R_lower (Kd.R_new' (Kd.R_new' (Kd.R_new' ho0 (Kd.R_lt q32_)) (Kd.R_lt q47_)) (Kd.R_lt (by (with_reducible repeat (first|apply Kd.R_alloc|apply Kd.R_drewN|apply Kd.R_drew));exact HO308.out))) (below_size (bl_)));have n4_ := Aside0.mk (below_step (bl_) hb);clear HO300;clear HO304;clear HO308;clear HB;have HO300 := n0_;have HO304 := n1_;have HO308 := n2_;have HO312 := n3_;have HB := n4_;clear n0_ n1_ n2_ n3_ n4_;(try clear hb);(try clear hb2);(try clear hk);(try clear hi);(try clear ho0)))
    (try simp only [Act.put,List.setIfInBounds_toArray,List.set_cons_zero,List.set_cons_succ])
    go_cut [84] (fun v84 wc=>∃ (kq : Nat) (x84_15 : Bool),v84 = .bool x84_15 ∧ Aside0 (batonlaw22_SeriesPicks.j1 kq l4 t305 x84_15 = some r) ∧ Aside0 (kq ≤ kj5) ∧ Aside0 (Kd.R k40 40 wc w.heap.size (fun _=>True) v307 t305) ∧ Aside0 (Below w.heap.size w wc))
    case first =>
     have H := HC16.out
     clear HC16
     replace H := Option.bind_eq_some_iff.mp H
     obtain ⟨t313,A210,H⟩ := H
     try dsimp only at H
     have A21 := Aside0.mk A210
     clear A210
     by_cases c22 : t313 = true
     ·subst c22
      have H1 : (if t298 = t302 then ((batonref22_Same.f kj5 t305 t309).bind fun t314=>(if t314 = true then (batonlaw22_SeriesPicks.j1 kj5 l4 t305 (t306 != t310)) else (batonlaw22_SeriesPicks.j1 kj5 l4 t305 true))) else (batonlaw22_SeriesPicks.j1 kj5 l4 t305 true)) = some r := by rw [if_pos rfl] at H;exact H
      clear H
      have H := H1
      clear H1
      by_cases c23 : t298 = t302
      ·rw [if_pos c23] at H
       have c23b0 : (t298 == t302) = true := beq_iff_eq.mpr c23
       have c23b1 : (t298 != t302) = false := bne_eq_false_iff_eq.mpr c23
       clear c23
       (first|rw [c23b0]|(simp only [i64_w,i32_w];rw [c23b0])|skip)
       replace H := Option.bind_eq_some_iff.mp H
       obtain ⟨t314,A240,H⟩ := H
       replace H : (if t314 = true then (batonlaw22_SeriesPicks.j1 kj5 l4 t305 (t306 != t310)) else (batonlaw22_SeriesPicks.j1 kj5 l4 t305 true)) = some r := H
       have A24 := Aside0.mk A240
       clear A240
       by_cases c25 : t314 = true
       ·subst c25
        have H1 : (batonlaw22_SeriesPicks.j1 kj5 l4 t305 (t306 != t310)) = some r := by rw [if_pos rfl] at H;exact H
        clear H
        have H := H1
        clear H1
        have H' := Aside0.mk H
        clear H
        obtain ⟨Ao26,co26,eo26⟩ := Kd.R_slice HO300.out
        subst eo26
        obtain ⟨Ao27,co27,eo27⟩ := Kd.R_slice HO304.out
        subst eo27
        go_wp2_with (first|((with_reducible refine gate_callee (f := 10) rfl ?_);refine goesL_ (some 67) rfl rfl Tryd.func10 q11_ rfl #[.slice Ao26 t297.length co26,.slice Ao27 t301.length co27] rfl q1_ ?_;(with_reducible refine (batonref22_Same.calls kj5 _ _ t297 _ _ t301 true _ ?side1 ?side2 ?side3 ?side4 A21.out).mono ?_);(case side1=>repeat (first|exact (Kd.R_reads' HO300.out).2.2|(with_reducible refine Kd.C_alloc ?_ _)|(with_reducible refine Kd.C_drewN ?_ _)|(with_reducible refine Kd.C_drew ?_)));(case side2=>exact (Kd.R_reads' HO300.out).2.1);(case side3=>repeat (first|exact (Kd.R_reads' HO304.out).2.2|(with_reducible refine Kd.C_alloc ?_ _)|(with_reducible refine Kd.C_drewN ?_ _)|(with_reducible refine Kd.C_drew ?_)));(case side4=>exact (Kd.R_reads' HO304.out).2.1);rintro e w' ⟨rfl,⟨nd,rfl⟩⟩;refine ⟨_,rfl,?_⟩;obtain ⟨Ao28,co28,eo28⟩ := Kd.R_slice HO308.out;subst eo28;obtain ⟨Ao29,co29,eo29⟩ := Kd.R_slice HO312.out;subst eo29)|(go_at_call 10;(with_reducible refine (batonref22_Same.calls kj5 _ _ t305 _ _ t309 true _ ?side1 ?side2 ?side3 ?side4 A24.out).mono ?_);(case side1=>repeat (first|exact (Kd.R_reads' HO308.out).2.2|(with_reducible refine Kd.C_alloc ?_ _)|(with_reducible refine Kd.C_drewN ?_ _)|(with_reducible refine Kd.C_drew ?_)));(case side2=>exact (Kd.R_reads' HO308.out).2.1);(case side3=>repeat (first|exact (Kd.R_reads' HO312.out).2.2|(with_reducible refine Kd.C_alloc ?_ _)|(with_reducible refine Kd.C_drewN ?_ _)|(with_reducible refine Kd.C_drew ?_)));(case side4=>exact (Kd.R_reads' HO312.out).2.1);rintro e w' ⟨rfl,⟨nd,rfl⟩⟩))
        go_meet
        case rel=>exact ⟨_,((t306 != t310)),q10_,H',⟨q53_⟩,⟨q40_⟩,⟨bl_⟩⟩
       ·replace c25 := Bool.eq_false_iff.mpr c25
        subst c25
        have H1 : (batonlaw22_SeriesPicks.j1 kj5 l4 t305 true) = some r := by rw [if_neg (show ¬ (false = true) by decide)] at H;exact H
        clear H
        have H := H1
        clear H1
        have H' := Aside0.mk H
        clear H
        obtain ⟨Ao30,co30,eo30⟩ := Kd.R_slice HO300.out
        subst eo30
        obtain ⟨Ao31,co31,eo31⟩ := Kd.R_slice HO304.out
        subst eo31
        go_wp2_with (first|((with_reducible refine gate_callee (f := 10) rfl ?_);refine goesL_ (some 67) rfl rfl Tryd.func10 q11_ rfl #[.slice Ao30 t297.length co30,.slice Ao31 t301.length co31] rfl q1_ ?_;(with_reducible refine (batonref22_Same.calls kj5 _ _ t297 _ _ t301 true _ ?side1 ?side2 ?side3 ?side4 A21.out).mono ?_);(case side1=>repeat (first|exact (Kd.R_reads' HO300.out).2.2|(with_reducible refine Kd.C_alloc ?_ _)|(with_reducible refine Kd.C_drewN ?_ _)|(with_reducible refine Kd.C_drew ?_)));(case side2=>exact (Kd.R_reads' HO300.out).2.1);(case side3=>repeat (first|exact (Kd.R_reads' HO304.out).2.2|(with_reducible refine Kd.C_alloc ?_ _)|(with_reducible refine Kd.C_drewN ?_ _)|(with_reducible refine Kd.C_drew ?_)));(case side4=>exact (Kd.R_reads' HO304.out).2.1);rintro e w' ⟨rfl,⟨nd,rfl⟩⟩;refine ⟨_,rfl,?_⟩;obtain ⟨Ao32,co32,eo32⟩ := Kd.R_slice HO308.out;subst eo32;obtain ⟨Ao33,co33,eo33⟩ := Kd.R_slice HO312.out;subst eo33)|(go_at_call 10;(with_reducible refine (batonref22_Same.calls kj5 _ _ t305 _ _ t309 false _ ?side1 ?side2 ?side3 ?side4 A24.out).mono ?_);(case side1=>repeat (first|exact (Kd.R_reads' HO308.out).2.2|(with_reducible refine Kd.C_alloc ?_ _)|(with_reducible refine Kd.C_drewN ?_ _)|(with_reducible refine Kd.C_drew ?_)));(case side2=>exact (Kd.R_reads' HO308.out).2.1);(case side3=>repeat (first|exact (Kd.R_reads' HO312.out).2.2|(with_reducible refine Kd.C_alloc ?_ _)|(with_reducible refine Kd.C_drewN ?_ _)|(with_reducible refine Kd.C_drew ?_)));(case side4=>exact (Kd.R_reads' HO312.out).2.1);rintro e w' ⟨rfl,⟨nd,rfl⟩⟩))
        go_meet
        case rel=>exact ⟨_,(true),q10_,H',⟨q53_⟩,⟨q40_⟩,⟨bl_⟩⟩
      ·rw [if_neg c23] at H
       have c23b0 : (t298 == t302) = false := beq_eq_false_iff_ne.mpr c23
       have c23b1 : (t298 != t302) = true := bne_iff_ne.mpr c23
       (first|rw [c23b0]|(simp only [i64_w,i32_w];rw [c23b0])|skip)
       have H' := Aside0.mk H
       clear H
       obtain ⟨Ao34,co34,eo34⟩ := Kd.R_slice HO300.out
       subst eo34
       obtain ⟨Ao35,co35,eo35⟩ := Kd.R_slice HO304.out
       subst eo35
       go_wp2_with (first|((with_reducible refine gate_callee (f := 10) rfl ?_);refine goesL_ (some 67) rfl rfl Tryd.func10 q11_ rfl #[.slice Ao34 t297.length co34,.slice Ao35 t301.length co35] rfl q1_ ?_;(with_reducible refine (batonref22_Same.calls kj5 _ _ t297 _ _ t301 true _ ?side1 ?side2 ?side3 ?side4 A21.out).mono ?_);(case side1=>repeat (first|exact (Kd.R_reads' HO300.out).2.2|(with_reducible refine Kd.C_alloc ?_ _)|(with_reducible refine Kd.C_drewN ?_ _)|(with_reducible refine Kd.C_drew ?_)));(case side2=>exact (Kd.R_reads' HO300.out).2.1);(case side3=>repeat (first|exact (Kd.R_reads' HO304.out).2.2|(with_reducible refine Kd.C_alloc ?_ _)|(with_reducible refine Kd.C_drewN ?_ _)|(with_reducible refine Kd.C_drew ?_)));(case side4=>exact (Kd.R_reads' HO304.out).2.1);rintro e w' ⟨rfl,⟨nd,rfl⟩⟩;refine ⟨_,rfl,?_⟩))
       go_meet
       case rel=>exact ⟨_,(true),q10_,H',⟨q53_⟩,⟨q40_⟩,⟨bl_⟩⟩
     ·replace c22 := Bool.eq_false_iff.mpr c22
      subst c22
      have H1 : (batonlaw22_SeriesPicks.j1 kj5 l4 t305 true) = some r := by rw [if_neg (show ¬ (false = true) by decide)] at H;exact H
      clear H
      have H := H1
      clear H1
      have H' := Aside0.mk H
      clear H
      obtain ⟨Ao36,co36,eo36⟩ := Kd.R_slice HO300.out
      subst eo36
      obtain ⟨Ao37,co37,eo37⟩ := Kd.R_slice HO304.out
      subst eo37
      go_wp2_with (first|((with_reducible refine gate_callee (f := 10) rfl ?_);refine goesL_ (some 67) rfl rfl Tryd.func10 q11_ rfl #[.slice Ao36 t297.length co36,.slice Ao37 t301.length co37] rfl q1_ ?_;(with_reducible refine (batonref22_Same.calls kj5 _ _ t297 _ _ t301 false _ ?side1 ?side2 ?side3 ?side4 A21.out).mono ?_);(case side1=>repeat (first|exact (Kd.R_reads' HO300.out).2.2|(with_reducible refine Kd.C_alloc ?_ _)|(with_reducible refine Kd.C_drewN ?_ _)|(with_reducible refine Kd.C_drew ?_)));(case side2=>exact (Kd.R_reads' HO300.out).2.1);(case side3=>repeat (first|exact (Kd.R_reads' HO304.out).2.2|(with_reducible refine Kd.C_alloc ?_ _)|(with_reducible refine Kd.C_drewN ?_ _)|(with_reducible refine Kd.C_drew ?_)));(case side4=>exact (Kd.R_reads' HO304.out).2.1);rintro e w' ⟨rfl,⟨nd,rfl⟩⟩;refine ⟨_,rfl,?_⟩))
      go_meet
      case rel=>exact ⟨_,(true),q10_,H',⟨q53_⟩,⟨q40_⟩,⟨bl_⟩⟩
    case rest =>
     clear HC16
     try clear c1
     try clear c2
     try clear p2
     try clear c3
     try clear c4
     try clear c5
     try clear c6
     try clear c7
     try clear c7b0
     try clear c7b1
     try clear c8
     try clear c8b0
     try clear c8b1
     try clear c9
     try clear c10
     try clear c22
     try clear c23
     try clear c23b0
     try clear c23b1
     try clear c25
     try clear p2
     obtain ⟨kq,x84_15,rfl,HA,HJ15,HO_15,HB⟩ := hcut
     cases kq with
     | zero=>exact absurd HA.out (by simp [batonlaw22_SeriesPicks.j1])
     | succ kj15 =>
      have H := HA.out
      clear HA
      simp only [batonlaw22_SeriesPicks.j1] at H
      by_cases c38 : x84_15 = true
      ·subst c38
       have H1 : (none) = some r := by rw [if_pos rfl] at H;exact H
       clear H
       have H := H1
       clear H1
       exact absurd H (by simp)
      ·replace c38 := Bool.eq_false_iff.mpr c38
       subst c38
       have H1 : (batonlaw22_SeriesPicks.l0 kj15 l4 t305 ([] : List Int) 0) = some r := by rw [if_neg (show ¬ (false = true) by decide)] at H;exact H
       clear H
       have H := H1
       clear H1
       have H' := Aside0.mk H
       clear H
       go_wp2
       go_loopg [19,20] kj15 (fun kq v19 v20 w'=>∃ (x19_3 : List Int) (x20_3 : Int),v20 = .int .i64 x20_3 ∧ Aside0 (batonlaw22_SeriesPicks.l0 kq l4 t305 x19_3 x20_3 = some r) ∧ Aside0 (kq ≤ kj15) ∧ Aside0 (Kd.R k40 40 w' w.heap.size (fun _=>True) v307 t305) ∧ Aside0 (Kd.R (Kd.int .u8) 31 w' w.heap.size (fun _=>True) v19 x19_3) ∧ Aside0 (Below w.heap.size w w'))
       case atStart=>exact ⟨(([] : List Int)),(0),q10_,H',⟨Nat.le_refl _⟩,⟨q14_⟩,⟨q16_⟩,⟨bl_⟩⟩
       case round =>
        clear H'
        try clear c1
        try clear c2
        try clear p2
        try clear c3
        try clear c4
        try clear c5
        try clear c6
        try clear c7
        try clear c7b0
        try clear c7b1
        try clear c8
        try clear c8b0
        try clear c8b1
        try clear c9
        try clear c10
        try clear c22
        try clear c23
        try clear c23b0
        try clear c23b1
        try clear c25
        try clear c38
        try clear p2
        obtain ⟨x19_3,x20_3,rfl,HA,HK3,HO_15,HO_19,HB⟩ := hrel
        cases gk with
        | zero=>exact absurd HA.out (by simp [batonlaw22_SeriesPicks.l0])
        | succ k3 =>
         have H := HA.out
         clear HA
         simp only [batonlaw22_SeriesPicks.l0] at H
         by_cases c39 : x20_3 < (l4.length : Int)
         ·rw [if_pos c39] at H
          have c39b0 : decide (x20_3 < (l4.length : Int)) = true := decide_eq_true c39
          clear c39
          by_cases c40 : 0 ≤ x20_3
          ·rw [if_pos c40] at H
           have c40b0 : decide (0 ≤ x20_3) = true := decide_eq_true c40
           clear c40
           by_cases c41 : x19_3.length < 140737488355328
           ·rw [if_pos c41] at H
            have LMc41 := Aside0.mk c41
            clear c41
            obtain ⟨y316,hy316⟩ : ∃ y_ : List Int,y_ = (x19_3 ++ [rd l4 x20_3]) := ⟨_,rfl⟩
            replace H : (if x20_3 < (y316.length : Int) then ((series_Verdict_String.f (rd y316 x20_3)).bind fun t320=>((batonref22_Word.f k3 (rd l4 x20_3)).bind fun t322=>(if t320.toList = t322.toList then ((series_Verdict_Bad.f (rd y316 x20_3)).bind fun t324=>(if (rd l4 x20_3) = 3 then (if (t324 != true) = true then (none) else (batonlaw22_SeriesPicks.l0 k3 l4 t305 y316 (wrap64 (x20_3 + 1)))) else (if (t324 != ((rd l4 x20_3) == 4)) = true then (none) else (batonlaw22_SeriesPicks.l0 k3 l4 t305 y316 (wrap64 (x20_3 + 1)))))) else (none)))) else (none)) = some r := by first|(rw [hy316];with_reducible exact H)|(have H2_ := (Option.bind_some _ _).symm.trans H;rw [hy316];with_reducible exact H2_)|(have H2_ := (Option.bind_some _ _).symm.trans H;with_reducible exact H2_)|with_reducible exact H|(rw [hy316];exact H)|exact H
            have Ny316 := Aside0.mk hy316
            clear hy316
            by_cases c42 : x20_3 < (y316.length : Int)
            ·rw [if_pos c42] at H
             have c42b0 : decide (x20_3 < (y316.length : Int)) = true := decide_eq_true c42
             clear c42
             replace H := Option.bind_eq_some_iff.mp H
             obtain ⟨t320,A430,H⟩ := H
             try dsimp only at H
             have A43 := Aside0.mk A430
             clear A430
             replace H := Option.bind_eq_some_iff.mp H
             obtain ⟨t322,A440,H⟩ := H
             try dsimp only at H
             have A44 := Aside0.mk A440
             clear A440
             by_cases c45 : t320.toList = t322.toList
             ·rw [if_pos c45] at H
              have c45b0 : (t320.toList == t322.toList) = true := beq_iff_eq.mpr c45
              have c45b1 : (t320.toList != t322.toList) = false := bne_eq_false_iff_eq.mpr c45
              clear c45
              replace H := Option.bind_eq_some_iff.mp H
              obtain ⟨t324,A460,H⟩ := H
              try dsimp only at H
              have A46 := Aside0.mk A460
              clear A460
              by_cases c47 : (rd l4 x20_3) = 3
              ·rw [if_pos c47] at H
               have c47b0 : ((rd l4 x20_3) == 3) = true := beq_iff_eq.mpr c47
               have c47b1 : ((rd l4 x20_3) != 3) = false := bne_eq_false_iff_eq.mpr c47
               clear c47
               by_cases c48 : (t324 != true) = true
               ·rw [if_pos c48] at H
                exact absurd H (by simp)
               ·rw [if_neg c48] at H
                have c48b0 : (t324 != true) = false := by simpa using c48
                (try (have c48b1 : decide (t324 = true) = true := by simpa using c48))
                (try (have c48b2 : (t324 == true) = true := by simpa using c48))
                clear c48
                have H' := Aside0.mk H
                clear H
                have p315 : 0 ≤ (x20_3 : Int) := of_decide_eq_true q5_
                have q315 : x20_3 < (l4.length : Int) := of_decide_eq_true q5_
                obtain ⟨ad315,e315,hx315_0⟩ := Kd.at_int HR4.out x20_3 p315 q315
                cases e315
                replace hx315_0 := (HB.out.cell (World.block_lt_of_cell? w _ hx315_0)).trans hx315_0
                replace p315 := eq_true p315
                replace q315 := eq_true q315
                try go_wp2_with (first|((with_reducible refine gate_builtin (b := .append) (xs := #[.tmp 91,.tmp 96]) rfl ?_);(try (refine gate_guard (by rfl) ?_;dsimp only));at_builtin;refine Kd.R_append (Kd.int .u8) (w0 := w) w.heap.size rfl (.tmp 91) (.tmp 96) 30 31 (.int .u8 0) 1 rfl Tryd.underlying30 info31 rfl (by decide) q29_ u19 x19_3 (rd l4 x20_3) [.int .u8 (rd l4 x20_3)] (fun _=>True) (fun _=>False) rfl rfl ?aP (fun _ hk=>hk.elim) ?aF ?aO ?aB ?aS ?aL ?_;(case aP=>exact rfl);(case aB=>exact (bl_));(case aF=>exact (fun _ _=>trivial));(case aO=>exact q33_);(case aS=>exact (below_size (bl_)));(case aL=>have := LMc41.out;omega);intro v317 w49 ho hb hg hat;rw [← Ny316.out] at ho;have n0_ := Aside0.mk (Kd.R_over' q14_ (Kd.R_typed q33_) (by decide) hg);have n1_ := Aside0.mk (hb);have n2_ := Aside0.mk (ho);clear HO_15;clear HB;clear HO_19;have HO_15 := n0_;have HB := n1_;have HO318 := n2_;clear n0_ n1_ n2_;clear ho hb hg hat))
                have n0_ := Aside0.mk (Kd.R_drew HO_15.out)
                have n1_ := Aside0.mk (Kd.R_drew HO318.out)
                have n2_ := Aside0.mk (below_drew1 HB.out)
                clear HO_15
                clear HO318
                clear HB
                have HO_15 := n0_
                have HO318 := n1_
                have HB := n2_
                clear n0_ n1_ n2_
                obtain ⟨Ao51,co51,eo51⟩ := Kd.R_slice HO318.out
                (first|subst eo51|(injection eo51 with f1_ f2_ f3_;have f4_ := f1_.symm;have f5_ := f3_.symm;clear f1_ f2_ f3_;subst f4_;subst f5_))
                have p319 : 0 ≤ (x20_3 : Int) := of_decide_eq_true q5_
                have q319 : x20_3 < (y316.length : Int) := of_decide_eq_true q5_
                obtain ⟨ad319,e319,hx319_0⟩ := Kd.at_int (Kd.R_reads' HO318.out).2.2 x20_3 p319 q319
                cases e319
                replace p319 := eq_true p319
                replace q319 := eq_true q319
                have p321 : 0 ≤ (x20_3 : Int) := of_decide_eq_true q5_
                have q321 : x20_3 < (l4.length : Int) := of_decide_eq_true q5_
                obtain ⟨ad321,e321,hx321_0⟩ := Kd.at_int HR4.out x20_3 p321 q321
                have hw321_0 := hx321_0
                obtain rfl : ad315 = ad321 := (by injection e321)
                replace hx321_0 := (HB.out.cell (World.block_lt_of_cell? w _ hx321_0)).trans hx321_0
                replace p321 := eq_true p321
                replace q321 := eq_true q321
                have p323 : 0 ≤ (x20_3 : Int) := of_decide_eq_true q5_
                have q323 : x20_3 < (y316.length : Int) := of_decide_eq_true q5_
                obtain ⟨ad323,e323,hx323_0⟩ := Kd.at_int (Kd.R_reads' HO318.out).2.2 x20_3 p323 q323
                obtain rfl : ad319 = ad323 := (by injection e323)
                replace p323 := eq_true p323
                replace q323 := eq_true q323
                have p325 : 0 ≤ (x20_3 : Int) := of_decide_eq_true q5_
                have q325 : x20_3 < (l4.length : Int) := of_decide_eq_true q5_
                obtain ⟨ad325,e325,hx325_0⟩ := Kd.at_int HR4.out x20_3 p325 q325
                have hw325_0 := hx325_0
                obtain rfl : ad315 = ad325 := (by injection e325)
                replace hx325_0 := (HB.out.cell (World.block_lt_of_cell? w _ hx325_0)).trans hx325_0
                replace p325 := eq_true p325
                replace q325 := eq_true q325
                refine start_ (n := 31) (S := fun w'=>w'.cell? (ad319.add (x20_3).toNat) = some (.int .u8 (rd y316 x20_3)) ∧ w'.cell? (ad315.add (x20_3).toNat) = some (.int .u8 (rd l4 x20_3)) ∧ w'.cell? (ad319.add (x20_3).toNat) = some (.int .u8 (rd y316 x20_3)) ∧ w'.cell? (ad315.add (x20_3).toNat) = some (.int .u8 (rd l4 x20_3))) (ds := []) #[false,false,false,false,false,false,false,false,false,false,false,false,false,false,false,false,false,false,false,false,false,false,false,false,false,false,false,false,false,false,false] q11_ rfl rfl ⟨hx319_0,((HB.out.cell (World.block_lt_of_cell? w _ hw321_0)).trans hw321_0),hx323_0,((HB.out.cell (World.block_lt_of_cell? w _ hw325_0)).trans hw325_0)⟩ (fun hHeld=>?_);refine with_tabW batonlaw22_SeriesPicks.tab14 batonlaw22_SeriesPicks.bits14 (fun HT_ HW_=>?_)
                generalize w49.drew = w50 at HO_15 HO318 HB hx319_0 hx321_0 hx323_0 hx325_0 hHeld ⊢
                refine pure_ (i := 0) (N := some 98) (v := ?_) (a' := ?_) #[true,false,false,false,false,false,false,false,false,false,false,false,false,false,false,false,false,false,false,false,false,false,false,false,false,false,false,false,false,false,false] rfl rfl (any_of HT_.out q11_) (fun _ _ _ h=>h) (Or.inl ⟨by rfl,?_⟩) ?_ ?_
                rotate_left
                ·intro w'
                 go_simp
                 with_reducible rfl
                rotate_left
                ·simp only [Act.put,List.setIfInBounds_toArray,List.set_cons_zero,List.set_cons_succ,i64_w,i32_w]
                 rfl
                refine pure_ (i := 1) (N := some 99) (v := ?_) (a' := ?_) #[true,true,false,false,false,false,false,false,false,false,false,false,false,false,false,false,false,false,false,false,false,false,false,false,false,false,false,false,false,false,false] rfl rfl (any_of HT_.out q11_) (fun _ _ _ h=>h) (Or.inl ⟨by rfl,?_⟩) ?_ ?_
                rotate_left
                ·intro w'
                 go_simp
                 with_reducible rfl
                rotate_left
                ·simp only [Act.put,List.setIfInBounds_toArray,List.set_cons_zero,List.set_cons_succ,i64_w,i32_w]
                 rfl
                refine pure_ (i := 2) (N := some 100) (v := ?_) (a' := ?_) #[true,true,true,false,false,false,false,false,false,false,false,false,false,false,false,false,false,false,false,false,false,false,false,false,false,false,false,false,false,false,false] rfl rfl (any_of HT_.out q11_) (fun _ _ _ h=>h) (Or.inl ⟨by rfl,?_⟩) ?_ ?_
                rotate_left
                ·intro w'
                 go_simp
                 with_reducible rfl
                rotate_left
                ·simp only [Act.put,List.setIfInBounds_toArray,List.set_cons_zero,List.set_cons_succ,i64_w,i32_w]
                 rfl
                refine pure_ (i := 5) (N := some 103) (v := ?_) (a' := ?_) #[true,true,true,false,false,true,false,false,false,false,false,false,false,false,false,false,false,false,false,false,false,false,false,false,false,false,false,false,false,false,false] rfl rfl (any_of HT_.out q11_) (fun _ _ _ h=>h) (Or.inl ⟨by rfl,?_⟩) ?_ ?_
                rotate_left
                ·intro w'
                 go_simp
                 with_reducible rfl
                rotate_left
                ·simp only [Act.put,List.setIfInBounds_toArray,List.set_cons_zero,List.set_cons_succ,i64_w,i32_w]
                 rfl
                refine pure_ (i := 6) (N := some 104) (v := ?_) (a' := ?_) #[true,true,true,false,false,true,true,false,false,false,false,false,false,false,false,false,false,false,false,false,false,false,false,false,false,false,false,false,false,false,false] rfl rfl (any_of HT_.out q11_) (fun _ _ _ h=>h) (Or.inl ⟨by rfl,?_⟩) ?_ ?_
                rotate_left
                ·intro w'
                 go_simp
                 with_reducible rfl
                rotate_left
                ·simp only [Act.put,List.setIfInBounds_toArray,List.set_cons_zero,List.set_cons_succ,i64_w,i32_w]
                 rfl
                refine pure_ (i := 7) (N := some 105) (v := ?_) (a' := ?_) #[true,true,true,false,false,true,true,true,false,false,false,false,false,false,false,false,false,false,false,false,false,false,false,false,false,false,false,false,false,false,false] rfl rfl (any_of HT_.out q11_) (fun _ _ _ h=>h) (Or.inl ⟨by rfl,?_⟩) ?_ ?_
                rotate_left
                ·intro w'
                 go_simp
                 with_reducible rfl
                rotate_left
                ·simp only [Act.put,List.setIfInBounds_toArray,List.set_cons_zero,List.set_cons_succ,i64_w,i32_w]
                 rfl
                refine take_ (i := 3) (N := some 101) (v := ?_) (a' := ?_) #[true,true,true,true,false,true,true,true,false,false,false,false,false,false,false,false,false,false,false,false,false,false,false,false,false,false,false,false,false,false,false] rfl rfl (take_ofW HT_.out HW_.out q11_) (fun _ _ _ h=>h) (Or.inl ⟨by rfl,?_⟩) hHeld ?_ ?_
                rotate_left
                ·rintro w' ⟨s0,s1,s2,s3⟩
                 go_simp
                 with_reducible rfl
                rotate_left
                ·simp only [Act.put,List.setIfInBounds_toArray,List.set_cons_zero,List.set_cons_succ,i64_w,i32_w]
                 rfl
                refine take_ (i := 8) (N := some 106) (v := ?_) (a' := ?_) #[true,true,true,true,false,true,true,true,true,false,false,false,false,false,false,false,false,false,false,false,false,false,false,false,false,false,false,false,false,false,false] rfl rfl (take_ofW HT_.out HW_.out q11_) (fun _ _ _ h=>h) (Or.inl ⟨by rfl,?_⟩) hHeld ?_ ?_
                rotate_left
                ·rintro w' ⟨s0,s1,s2,s3⟩
                 go_simp
                 with_reducible rfl
                rotate_left
                ·simp only [Act.put,List.setIfInBounds_toArray,List.set_cons_zero,List.set_cons_succ,i64_w,i32_w]
                 rfl
                refine one_ (i := 4) (N := some 102) #[true,true,true,true,true,true,true,true,true,false,false,false,false,false,false,false,false,false,false,false,false,false,false,false,false,false,false,false,false,false,false] rfl rfl (one_of HT_.out q11_) (by decide) (fun K hK=>?_)
                refine goes_ Tryd.func11 q11_ rfl #[.int .u8 (rd y316 x20_3)] (by rfl) rfl rfl q1_ ?_
                with_reducible refine (series_Verdict_String.calls (rd y316 x20_3) t320 _ A43.out).mono ?_
                rintro e w52 ⟨rfl,hb⟩
                have HS0_ := (hb.cell (World.block_lt_of_cell? _ _ (hHeld.1))).trans (hHeld.1)
                have HS2_ := (hb.cell (World.block_lt_of_cell? _ _ (hHeld.2.2.1))).trans (hHeld.2.2.1)
                refine ⟨_,rfl,?_⟩
                have n0_ := Aside0.mk (Kd.R_below q14_ hb)
                have n1_ := Aside0.mk (Kd.R_below q34_ hb)
                have n2_ := Aside0.mk (below_step (bl_) hb)
                clear HO_15
                clear HO318
                clear HB
                have HO_15 := n0_
                have HO318 := n1_
                have HB := n2_
                clear n0_ n1_ n2_
                (try clear hb)
                (try clear hb2)
                (try clear hk)
                (try clear hi)
                refine hK.out _ _ ⟨HS0_,((HB.out.cell (World.block_lt_of_cell? w _ hw321_0)).trans hw321_0),HS2_,((HB.out.cell (World.block_lt_of_cell? w _ hw325_0)).trans hw325_0)⟩ (fun hHeld=>?_)
                clear hK K
                refine norm_ (a' := ?_) ?_ ?_
                rotate_left
                ·show Act.put _ (some 102) _ = _
                 simp only [Act.put,List.setIfInBounds_toArray,List.set_cons_zero,List.set_cons_succ,i64_w,i32_w]
                 rfl
                refine one_ (i := 9) (N := some 107) #[true,true,true,true,true,true,true,true,true,true,false,false,false,false,false,false,false,false,false,false,false,false,false,false,false,false,false,false,false,false,false] rfl rfl (one_of HT_.out q11_) (by decide) (fun K hK=>?_)
                refine goes_ Tryd.func12 q11_ rfl #[.int .u8 (rd l4 x20_3)] (by rfl) rfl rfl q1_ ?_
                with_reducible refine (batonref22_Word.calls k3 (rd l4 x20_3) t322 _ A44.out).mono ?_
                rintro e w53 ⟨rfl,hb⟩
                have HS0_ := (hb.cell (World.block_lt_of_cell? _ _ (hHeld.1))).trans (hHeld.1)
                have HS2_ := (hb.cell (World.block_lt_of_cell? _ _ (hHeld.2.2.1))).trans (hHeld.2.2.1)
                refine ⟨_,rfl,?_⟩
                have n0_ := Aside0.mk (Kd.R_below q14_ hb)
                have n1_ := Aside0.mk (Kd.R_below q34_ hb)
                have n2_ := Aside0.mk (below_step (bl_) hb)
                clear HO_15
                clear HO318
                clear HB
                have HO_15 := n0_
                have HO318 := n1_
                have HB := n2_
                clear n0_ n1_ n2_
                (try clear hb)
                (try clear hb2)
                (try clear hk)
                (try clear hi)
                refine hK.out _ _ ⟨HS0_,((HB.out.cell (World.block_lt_of_cell? w _ hw321_0)).trans hw321_0),HS2_,((HB.out.cell (World.block_lt_of_cell? w _ hw325_0)).trans hw325_0)⟩ (fun hHeld=>?_)
                clear hK K
                refine norm_ (a' := ?_) ?_ ?_
                rotate_left
                ·show Act.put _ (some 107) _ = _
                 simp only [Act.put,List.setIfInBounds_toArray,List.set_cons_zero,List.set_cons_succ,i64_w,i32_w]
                 rfl
                refine pure_ (i := 10) (N := some 108) (v := ?_) (a' := ?_) #[true,true,true,true,true,true,true,true,true,true,true,false,false,false,false,false,false,false,false,false,false,false,false,false,false,false,false,false,false,false,false] rfl rfl (any_of HT_.out q11_) (fun _ _ _ h=>h) (Or.inl ⟨by rfl,?_⟩) ?_ ?_
                rotate_left
                ·intro w'
                 go_simp
                 with_reducible rfl
                rotate_left
                ·simp only [Act.put,List.setIfInBounds_toArray,List.set_cons_zero,List.set_cons_succ,i64_w,i32_w]
                 rfl
                refine pure_ (i := 11) (N := some 109) (v := ?_) (a' := ?_) #[true,true,true,true,true,true,true,true,true,true,true,true,false,false,false,false,false,false,false,false,false,false,false,false,false,false,false,false,false,false,false] rfl rfl (any_of HT_.out q11_) (fun _ _ _ h=>h) (Or.inl ⟨by rfl,?_⟩) ?_ ?_
                rotate_left
                ·intro w'
                 go_simp
                 with_reducible rfl
                rotate_left
                ·simp only [Act.put,List.setIfInBounds_toArray,List.set_cons_zero,List.set_cons_succ,i64_w,i32_w]
                 rfl
                refine pure_ (i := 12) (N := some 110) (v := ?_) (a' := ?_) #[true,true,true,true,true,true,true,true,true,true,true,true,true,false,false,false,false,false,false,false,false,false,false,false,false,false,false,false,false,false,false] rfl rfl (any_of HT_.out q11_) (fun _ _ _ h=>h) (Or.inl ⟨by rfl,?_⟩) ?_ ?_
                rotate_left
                ·intro w'
                 go_simp
                 with_reducible rfl
                rotate_left
                ·simp only [Act.put,List.setIfInBounds_toArray,List.set_cons_zero,List.set_cons_succ,i64_w,i32_w]
                 rfl
                refine pure_ (i := 13) (N := some 111) (v := ?_) (a' := ?_) #[true,true,true,true,true,true,true,true,true,true,true,true,true,true,false,false,false,false,false,false,false,false,false,false,false,false,false,false,false,false,false] rfl rfl (any_of HT_.out q11_) (fun _ _ _ h=>h) (Or.inl ⟨by rfl,?_⟩) ?_ ?_
                rotate_left
                ·intro w'
                 go_simp
                 with_reducible rfl
                rotate_left
                ·simp only [Act.put,List.setIfInBounds_toArray,List.set_cons_zero,List.set_cons_succ,i64_w,i32_w]
                 rfl
                refine pure_ (i := 14) (N := some 112) (v := ?_) (a' := ?_) #[true,true,true,true,true,true,true,true,true,true,true,true,true,true,true,false,false,false,false,false,false,false,false,false,false,false,false,false,false,false,false] rfl rfl (any_of HT_.out q11_) (fun _ _ _ h=>h) (Or.inl ⟨by rfl,?_⟩) ?_ ?_
                rotate_left
                ·intro w'
                 go_simp
                 with_reducible rfl
                rotate_left
                ·simp only [Act.put,List.setIfInBounds_toArray,List.set_cons_zero,List.set_cons_succ,i64_w,i32_w]
                 rfl
                refine pure_ (i := 17) (N := some 115) (v := ?_) (a' := ?_) #[true,true,true,true,true,true,true,true,true,true,true,true,true,true,true,false,false,true,false,false,false,false,false,false,false,false,false,false,false,false,false] rfl rfl (any_of HT_.out q11_) (fun _ _ _ h=>h) (Or.inl ⟨by rfl,?_⟩) ?_ ?_
                rotate_left
                ·intro w'
                 go_simp
                 with_reducible rfl
                rotate_left
                ·simp only [Act.put,List.setIfInBounds_toArray,List.set_cons_zero,List.set_cons_succ,i64_w,i32_w]
                 rfl
                refine pure_ (i := 18) (N := some 116) (v := ?_) (a' := ?_) #[true,true,true,true,true,true,true,true,true,true,true,true,true,true,true,false,false,true,true,false,false,false,false,false,false,false,false,false,false,false,false] rfl rfl (any_of HT_.out q11_) (fun _ _ _ h=>h) (Or.inl ⟨by rfl,?_⟩) ?_ ?_
                rotate_left
                ·intro w'
                 go_simp
                 with_reducible rfl
                rotate_left
                ·simp only [Act.put,List.setIfInBounds_toArray,List.set_cons_zero,List.set_cons_succ,i64_w,i32_w]
                 rfl
                refine pure_ (i := 19) (N := some 117) (v := ?_) (a' := ?_) #[true,true,true,true,true,true,true,true,true,true,true,true,true,true,true,false,false,true,true,true,false,false,false,false,false,false,false,false,false,false,false] rfl rfl (any_of HT_.out q11_) (fun _ _ _ h=>h) (Or.inl ⟨by rfl,?_⟩) ?_ ?_
                rotate_left
                ·intro w'
                 go_simp
                 with_reducible rfl
                rotate_left
                ·simp only [Act.put,List.setIfInBounds_toArray,List.set_cons_zero,List.set_cons_succ,i64_w,i32_w]
                 rfl
                refine take_ (i := 15) (N := some 113) (v := ?_) (a' := ?_) #[true,true,true,true,true,true,true,true,true,true,true,true,true,true,true,true,false,true,true,true,false,false,false,false,false,false,false,false,false,false,false] rfl rfl (take_ofW HT_.out HW_.out q11_) (fun _ _ _ h=>h) (Or.inl ⟨by rfl,?_⟩) hHeld ?_ ?_
                rotate_left
                ·rintro w' ⟨s0,s1,s2,s3⟩
                 go_simp
                 with_reducible rfl
                rotate_left
                ·simp only [Act.put,List.setIfInBounds_toArray,List.set_cons_zero,List.set_cons_succ,i64_w,i32_w]
                 rfl
                refine take_ (i := 20) (N := some 118) (v := ?_) (a' := ?_) #[true,true,true,true,true,true,true,true,true,true,true,true,true,true,true,true,false,true,true,true,true,false,false,false,false,false,false,false,false,false,false] rfl rfl (take_ofW HT_.out HW_.out q11_) (fun _ _ _ h=>h) (Or.inl ⟨by rfl,?_⟩) hHeld ?_ ?_
                rotate_left
                ·rintro w' ⟨s0,s1,s2,s3⟩
                 go_simp
                 with_reducible rfl
                rotate_left
                ·simp only [Act.put,List.setIfInBounds_toArray,List.set_cons_zero,List.set_cons_succ,i64_w,i32_w]
                 rfl
                refine pure_ (i := 21) (N := some 119) (v := ?_) (a' := ?_) #[true,true,true,true,true,true,true,true,true,true,true,true,true,true,true,true,false,true,true,true,true,true,false,false,false,false,false,false,false,false,false] rfl rfl (any_of HT_.out q11_) (fun _ _ _ h=>h) (Or.inl ⟨by rfl,?_⟩) ?_ ?_
                rotate_left
                ·intro w'
                 go_simp
                 with_reducible rfl
                rotate_left
                ·simp only [Act.put,List.setIfInBounds_toArray,List.set_cons_zero,List.set_cons_succ,i64_w,i32_w]
                 rfl
                refine one_ (i := 16) (N := some 114) #[true,true,true,true,true,true,true,true,true,true,true,true,true,true,true,true,true,true,true,true,true,true,false,false,false,false,false,false,false,false,false] rfl rfl (one_of HT_.out q11_) (by decide) (fun K hK=>?_)
                refine goes_ Tryd.func13 q11_ rfl #[.int .u8 (rd y316 x20_3)] (by rfl) rfl rfl q1_ ?_
                with_reducible refine (series_Verdict_Bad.calls (rd y316 x20_3) t324 _ A46.out).mono ?_
                rintro e w' ⟨rfl,⟨nd,rfl⟩⟩
                refine ⟨_,rfl,?_⟩
                refine hK.out _ _ ⟨hHeld.1,((HB.out.cell (World.block_lt_of_cell? w _ hw321_0)).trans hw321_0),hHeld.2.2.1,((HB.out.cell (World.block_lt_of_cell? w _ hw325_0)).trans hw325_0)⟩ (fun hHeld=>?_)
                clear hK K
                refine norm_ (a' := ?_) ?_ ?_
                rotate_left
                ·show Act.put _ (some 114) _ = _
                 simp only [Act.put,List.setIfInBounds_toArray,List.set_cons_zero,List.set_cons_succ,i64_w,i32_w]
                 rfl
                refine pure_ (i := 22) (N := some 120) (v := ?_) (a' := ?_) #[true,true,true,true,true,true,true,true,true,true,true,true,true,true,true,true,true,true,true,true,true,true,true,false,false,false,false,false,false,false,false] rfl rfl (any_of HT_.out q11_) (fun _ _ _ h=>h) (Or.inl ⟨by rfl,?_⟩) ?_ ?_
                rotate_left
                ·intro w'
                 go_simp
                 with_reducible rfl
                rotate_left
                ·simp only [Act.put,List.setIfInBounds_toArray,List.set_cons_zero,List.set_cons_succ,i64_w,i32_w]
                 rfl
                refine pure_ (i := 23) (N := some 121) (v := undef) (a' := ?_) #[true,true,true,true,true,true,true,true,true,true,true,true,true,true,true,true,true,true,true,true,true,true,true,true,false,false,false,false,false,false,false] rfl rfl (any_of HT_.out q11_) (fun _ _ _ h=>h) (Or.inr ⟨by rfl,rfl⟩) ?_ ?_
                rotate_left
                ·simp only [Act.put,List.setIfInBounds_toArray,List.set_cons_zero,List.set_cons_succ,i64_w,i32_w]
                 rfl
                refine pure_ (i := 24) (N := some 122) (v := undef) (a' := ?_) #[true,true,true,true,true,true,true,true,true,true,true,true,true,true,true,true,true,true,true,true,true,true,true,true,true,false,false,false,false,false,false] rfl rfl (any_of HT_.out q11_) (fun _ _ _ h=>h) (Or.inr ⟨by rfl,rfl⟩) ?_ ?_
                rotate_left
                ·simp only [Act.put,List.setIfInBounds_toArray,List.set_cons_zero,List.set_cons_succ,i64_w,i32_w]
                 rfl
                refine pure_ (i := 25) (N := some 123) (v := undef) (a' := ?_) #[true,true,true,true,true,true,true,true,true,true,true,true,true,true,true,true,true,true,true,true,true,true,true,true,true,true,false,false,false,false,false] rfl rfl (any_of HT_.out q11_) (fun _ _ _ h=>h) (Or.inr ⟨by rfl,rfl⟩) ?_ ?_
                rotate_left
                ·simp only [Act.put,List.setIfInBounds_toArray,List.set_cons_zero,List.set_cons_succ,i64_w,i32_w]
                 rfl
                refine pure_ (i := 26) (N := some 124) (v := undef) (a' := ?_) #[true,true,true,true,true,true,true,true,true,true,true,true,true,true,true,true,true,true,true,true,true,true,true,true,true,true,true,false,false,false,false] rfl rfl (any_of HT_.out q11_) (fun _ _ _ h=>h) (Or.inr ⟨by rfl,rfl⟩) ?_ ?_
                rotate_left
                ·simp only [Act.put,List.setIfInBounds_toArray,List.set_cons_zero,List.set_cons_succ,i64_w,i32_w]
                 rfl
                refine pure_ (i := 27) (N := some 125) (v := undef) (a' := ?_) #[true,true,true,true,true,true,true,true,true,true,true,true,true,true,true,true,true,true,true,true,true,true,true,true,true,true,true,true,false,false,false] rfl rfl (any_of HT_.out q11_) (fun _ _ _ h=>h) (Or.inr ⟨by rfl,rfl⟩) ?_ ?_
                rotate_left
                ·simp only [Act.put,List.setIfInBounds_toArray,List.set_cons_zero,List.set_cons_succ,i64_w,i32_w]
                 rfl
                refine pure_ (i := 28) (N := some 126) (v := ?_) (a' := ?_) #[true,true,true,true,true,true,true,true,true,true,true,true,true,true,true,true,true,true,true,true,true,true,true,true,true,true,true,true,true,false,false] rfl rfl (any_of HT_.out q11_) (fun _ _ _ h=>h) (Or.inl ⟨by rfl,?_⟩) ?_ ?_
                rotate_left
                ·intro w'
                 go_simp
                 with_reducible rfl
                rotate_left
                ·simp only [Act.put,List.setIfInBounds_toArray,List.set_cons_zero,List.set_cons_succ,i64_w,i32_w]
                 rfl
                refine pure_ (i := 29) (N := some 127) (v := ?_) (a' := ?_) #[true,true,true,true,true,true,true,true,true,true,true,true,true,true,true,true,true,true,true,true,true,true,true,true,true,true,true,true,true,true,false] rfl rfl (any_of HT_.out q11_) (fun _ _ _ h=>h) (Or.inl ⟨by rfl,?_⟩) ?_ ?_
                rotate_left
                ·intro w'
                 go_simp
                 with_reducible rfl
                rotate_left
                ·simp only [Act.put,List.setIfInBounds_toArray,List.set_cons_zero,List.set_cons_succ,i64_w,i32_w]
                 rfl
                refine pure_ (i := 30) (N := some 128) (v := ?_) (a' := ?_) #[true,true,true,true,true,true,true,true,true,true,true,true,true,true,true,true,true,true,true,true,true,true,true,true,true,true,true,true,true,true,true] rfl rfl (any_of HT_.out q11_) (fun _ _ _ h=>h) (Or.inl ⟨by rfl,?_⟩) ?_ ?_
                rotate_left
                ·intro w'
                 go_simp
                 with_reducible rfl
                rotate_left
                ·simp only [Act.put,List.setIfInBounds_toArray,List.set_cons_zero,List.set_cons_succ,i64_w,i32_w]
                 rfl
                refine done_ (done_of HT_.out q11_) ?_
                try go_wp2
                go_roundg k3
                case measure=>have := HJ5.out;have := HJ15.out;have := HK3.out;omega
                case rel=>exact ⟨(y316),(wrap64 (x20_3 + 1)),q10_,H',⟨by have := HJ5.out;have := HJ15.out;have := HK3.out;omega⟩,⟨q14_⟩,⟨q34_⟩,⟨bl_⟩⟩
              ·rw [if_neg c47] at H
               have c47b0 : ((rd l4 x20_3) == 3) = false := beq_eq_false_iff_ne.mpr c47
               have c47b1 : ((rd l4 x20_3) != 3) = true := bne_iff_ne.mpr c47
               by_cases c54 : (t324 != ((rd l4 x20_3) == 4)) = true
               ·rw [if_pos c54] at H
                exact absurd H (by simp)
               ·rw [if_neg c54] at H
                have c54b0 : (t324 != ((rd l4 x20_3) == 4)) = false := by simpa using c54
                (try (have c54b1 : decide (t324 = ((rd l4 x20_3) == 4)) = true := by simpa using c54))
                (try (have c54b2 : (t324 == ((rd l4 x20_3) == 4)) = true := by simpa using c54))
                clear c54
                have H' := Aside0.mk H
                clear H
                have p315 : 0 ≤ (x20_3 : Int) := of_decide_eq_true q5_
                have q315 : x20_3 < (l4.length : Int) := of_decide_eq_true q5_
                obtain ⟨ad315,e315,hx315_0⟩ := Kd.at_int HR4.out x20_3 p315 q315
                cases e315
                replace hx315_0 := (HB.out.cell (World.block_lt_of_cell? w _ hx315_0)).trans hx315_0
                replace p315 := eq_true p315
                replace q315 := eq_true q315
                try go_wp2_with (first|((with_reducible refine gate_builtin (b := .append) (xs := #[.tmp 91,.tmp 96]) rfl ?_);(try (refine gate_guard (by rfl) ?_;dsimp only));at_builtin;refine Kd.R_append (Kd.int .u8) (w0 := w) w.heap.size rfl (.tmp 91) (.tmp 96) 30 31 (.int .u8 0) 1 rfl Tryd.underlying30 info31 rfl (by decide) q29_ u19 x19_3 (rd l4 x20_3) [.int .u8 (rd l4 x20_3)] (fun _=>True) (fun _=>False) rfl rfl ?aP (fun _ hk=>hk.elim) ?aF ?aO ?aB ?aS ?aL ?_;(case aP=>exact rfl);(case aB=>exact (bl_));(case aF=>exact (fun _ _=>trivial));(case aO=>exact q33_);(case aS=>exact (below_size (bl_)));(case aL=>have := LMc41.out;omega);intro v317 w55 ho hb hg hat;rw [← Ny316.out] at ho;have n0_ := Aside0.mk (Kd.R_over' q14_ (Kd.R_typed q33_) (by decide) hg);have n1_ := Aside0.mk (hb);have n2_ := Aside0.mk (ho);clear HO_15;clear HB;clear HO_19;have HO_15 := n0_;have HB := n1_;have HO318 := n2_;clear n0_ n1_ n2_;clear ho hb hg hat))
                have n0_ := Aside0.mk (Kd.R_drew HO_15.out)
                have n1_ := Aside0.mk (Kd.R_drew HO318.out)
                have n2_ := Aside0.mk (below_drew1 HB.out)
                clear HO_15
                clear HO318
                clear HB
                have HO_15 := n0_
                have HO318 := n1_
                have HB := n2_
                clear n0_ n1_ n2_
                obtain ⟨Ao57,co57,eo57⟩ := Kd.R_slice HO318.out
                (first|subst eo57|(injection eo57 with f1_ f2_ f3_;have f4_ := f1_.symm;have f5_ := f3_.symm;clear f1_ f2_ f3_;subst f4_;subst f5_))
                have p319 : 0 ≤ (x20_3 : Int) := of_decide_eq_true q5_
                have q319 : x20_3 < (y316.length : Int) := of_decide_eq_true q5_
                obtain ⟨ad319,e319,hx319_0⟩ := Kd.at_int (Kd.R_reads' HO318.out).2.2 x20_3 p319 q319
                cases e319
                replace p319 := eq_true p319
                replace q319 := eq_true q319
                have p321 : 0 ≤ (x20_3 : Int) := of_decide_eq_true q5_
                have q321 : x20_3 < (l4.length : Int) := of_decide_eq_true q5_
                obtain ⟨ad321,e321,hx321_0⟩ := Kd.at_int HR4.out x20_3 p321 q321
                have hw321_0 := hx321_0
                obtain rfl : ad315 = ad321 := (by injection e321)
                replace hx321_0 := (HB.out.cell (World.block_lt_of_cell? w _ hx321_0)).trans hx321_0
                replace p321 := eq_true p321
                replace q321 := eq_true q321
                have p323 : 0 ≤ (x20_3 : Int) := of_decide_eq_true q5_
                have q323 : x20_3 < (y316.length : Int) := of_decide_eq_true q5_
                obtain ⟨ad323,e323,hx323_0⟩ := Kd.at_int (Kd.R_reads' HO318.out).2.2 x20_3 p323 q323
                obtain rfl : ad319 = ad323 := (by injection e323)
                replace p323 := eq_true p323
                replace q323 := eq_true q323
                have p325 : 0 ≤ (x20_3 : Int) := of_decide_eq_true q5_
                have q325 : x20_3 < (l4.length : Int) := of_decide_eq_true q5_
                obtain ⟨ad325,e325,hx325_0⟩ := Kd.at_int HR4.out x20_3 p325 q325
                have hw325_0 := hx325_0
                obtain rfl : ad315 = ad325 := (by injection e325)
                replace hx325_0 := (HB.out.cell (World.block_lt_of_cell? w _ hx325_0)).trans hx325_0
                replace p325 := eq_true p325
                replace q325 := eq_true q325
                have p326 : 0 ≤ (x20_3 : Int) := of_decide_eq_true q5_
                have q326 : x20_3 < (l4.length : Int) := of_decide_eq_true q5_
                obtain ⟨ad326,e326,hx326_0⟩ := Kd.at_int HR4.out x20_3 p326 q326
                have hw326_0 := hx326_0
                obtain rfl : ad315 = ad326 := (by injection e326)
                replace hx326_0 := (HB.out.cell (World.block_lt_of_cell? w _ hx326_0)).trans hx326_0
                replace p326 := eq_true p326
                replace q326 := eq_true q326
                refine start_ (n := 31) (S := fun w'=>w'.cell? (ad319.add (x20_3).toNat) = some (.int .u8 (rd y316 x20_3)) ∧ w'.cell? (ad315.add (x20_3).toNat) = some (.int .u8 (rd l4 x20_3)) ∧ w'.cell? (ad319.add (x20_3).toNat) = some (.int .u8 (rd y316 x20_3)) ∧ w'.cell? (ad315.add (x20_3).toNat) = some (.int .u8 (rd l4 x20_3)) ∧ w'.cell? (ad315.add (x20_3).toNat) = some (.int .u8 (rd l4 x20_3))) (ds := []) #[false,false,false,false,false,false,false,false,false,false,false,false,false,false,false,false,false,false,false,false,false,false,false,false,false,false,false,false,false,false,false] q11_ rfl rfl ⟨hx319_0,((HB.out.cell (World.block_lt_of_cell? w _ hw321_0)).trans hw321_0),hx323_0,((HB.out.cell (World.block_lt_of_cell? w _ hw325_0)).trans hw325_0),((HB.out.cell (World.block_lt_of_cell? w _ hw326_0)).trans hw326_0)⟩ (fun hHeld=>?_);refine with_tabW batonlaw22_SeriesPicks.tab14 batonlaw22_SeriesPicks.bits14 (fun HT_ HW_=>?_)
                generalize w55.drew = w56 at HO_15 HO318 HB hx319_0 hx321_0 hx323_0 hx325_0 hx326_0 hHeld ⊢
                refine pure_ (i := 0) (N := some 98) (v := ?_) (a' := ?_) #[true,false,false,false,false,false,false,false,false,false,false,false,false,false,false,false,false,false,false,false,false,false,false,false,false,false,false,false,false,false,false] rfl rfl (any_of HT_.out q11_) (fun _ _ _ h=>h) (Or.inl ⟨by rfl,?_⟩) ?_ ?_
                rotate_left
                ·intro w'
                 go_simp
                 with_reducible rfl
                rotate_left
                ·simp only [Act.put,List.setIfInBounds_toArray,List.set_cons_zero,List.set_cons_succ,i64_w,i32_w]
                 rfl
                refine pure_ (i := 1) (N := some 99) (v := ?_) (a' := ?_) #[true,true,false,false,false,false,false,false,false,false,false,false,false,false,false,false,false,false,false,false,false,false,false,false,false,false,false,false,false,false,false] rfl rfl (any_of HT_.out q11_) (fun _ _ _ h=>h) (Or.inl ⟨by rfl,?_⟩) ?_ ?_
                rotate_left
                ·intro w'
                 go_simp
                 with_reducible rfl
                rotate_left
                ·simp only [Act.put,List.setIfInBounds_toArray,List.set_cons_zero,List.set_cons_succ,i64_w,i32_w]
                 rfl
                refine pure_ (i := 2) (N := some 100) (v := ?_) (a' := ?_) #[true,true,true,false,false,false,false,false,false,false,false,false,false,false,false,false,false,false,false,false,false,false,false,false,false,false,false,false,false,false,false] rfl rfl (any_of HT_.out q11_) (fun _ _ _ h=>h) (Or.inl ⟨by rfl,?_⟩) ?_ ?_
                rotate_left
                ·intro w'
                 go_simp
                 with_reducible rfl
                rotate_left
                ·simp only [Act.put,List.setIfInBounds_toArray,List.set_cons_zero,List.set_cons_succ,i64_w,i32_w]
                 rfl
                refine pure_ (i := 5) (N := some 103) (v := ?_) (a' := ?_) #[true,true,true,false,false,true,false,false,false,false,false,false,false,false,false,false,false,false,false,false,false,false,false,false,false,false,false,false,false,false,false] rfl rfl (any_of HT_.out q11_) (fun _ _ _ h=>h) (Or.inl ⟨by rfl,?_⟩) ?_ ?_
                rotate_left
                ·intro w'
                 go_simp
                 with_reducible rfl
                rotate_left
                ·simp only [Act.put,List.setIfInBounds_toArray,List.set_cons_zero,List.set_cons_succ,i64_w,i32_w]
                 rfl
                refine pure_ (i := 6) (N := some 104) (v := ?_) (a' := ?_) #[true,true,true,false,false,true,true,false,false,false,false,false,false,false,false,false,false,false,false,false,false,false,false,false,false,false,false,false,false,false,false] rfl rfl (any_of HT_.out q11_) (fun _ _ _ h=>h) (Or.inl ⟨by rfl,?_⟩) ?_ ?_
                rotate_left
                ·intro w'
                 go_simp
                 with_reducible rfl
                rotate_left
                ·simp only [Act.put,List.setIfInBounds_toArray,List.set_cons_zero,List.set_cons_succ,i64_w,i32_w]
                 rfl
                refine pure_ (i := 7) (N := some 105) (v := ?_) (a' := ?_) #[true,true,true,false,false,true,true,true,false,false,false,false,false,false,false,false,false,false,false,false,false,false,false,false,false,false,false,false,false,false,false] rfl rfl (any_of HT_.out q11_) (fun _ _ _ h=>h) (Or.inl ⟨by rfl,?_⟩) ?_ ?_
                rotate_left
                ·intro w'
                 go_simp
                 with_reducible rfl
                rotate_left
                ·simp only [Act.put,List.setIfInBounds_toArray,List.set_cons_zero,List.set_cons_succ,i64_w,i32_w]
                 rfl
                refine take_ (i := 3) (N := some 101) (v := ?_) (a' := ?_) #[true,true,true,true,false,true,true,true,false,false,false,false,false,false,false,false,false,false,false,false,false,false,false,false,false,false,false,false,false,false,false] rfl rfl (take_ofW HT_.out HW_.out q11_) (fun _ _ _ h=>h) (Or.inl ⟨by rfl,?_⟩) hHeld ?_ ?_
                rotate_left
                ·rintro w' ⟨s0,s1,s2,s3,s4⟩
                 go_simp
                 with_reducible rfl
                rotate_left
                ·simp only [Act.put,List.setIfInBounds_toArray,List.set_cons_zero,List.set_cons_succ,i64_w,i32_w]
                 rfl
                refine take_ (i := 8) (N := some 106) (v := ?_) (a' := ?_) #[true,true,true,true,false,true,true,true,true,false,false,false,false,false,false,false,false,false,false,false,false,false,false,false,false,false,false,false,false,false,false] rfl rfl (take_ofW HT_.out HW_.out q11_) (fun _ _ _ h=>h) (Or.inl ⟨by rfl,?_⟩) hHeld ?_ ?_
                rotate_left
                ·rintro w' ⟨s0,s1,s2,s3,s4⟩
                 go_simp
                 with_reducible rfl
                rotate_left
                ·simp only [Act.put,List.setIfInBounds_toArray,List.set_cons_zero,List.set_cons_succ,i64_w,i32_w]
                 rfl
                refine one_ (i := 4) (N := some 102) #[true,true,true,true,true,true,true,true,true,false,false,false,false,false,false,false,false,false,false,false,false,false,false,false,false,false,false,false,false,false,false] rfl rfl (one_of HT_.out q11_) (by decide) (fun K hK=>?_)
                refine goes_ Tryd.func11 q11_ rfl #[.int .u8 (rd y316 x20_3)] (by rfl) rfl rfl q1_ ?_
                with_reducible refine (series_Verdict_String.calls (rd y316 x20_3) t320 _ A43.out).mono ?_
                rintro e w58 ⟨rfl,hb⟩
                have HS0_ := (hb.cell (World.block_lt_of_cell? _ _ (hHeld.1))).trans (hHeld.1)
                have HS2_ := (hb.cell (World.block_lt_of_cell? _ _ (hHeld.2.2.1))).trans (hHeld.2.2.1)
                refine ⟨_,rfl,?_⟩
                have n0_ := Aside0.mk (Kd.R_below q14_ hb)
                have n1_ := Aside0.mk (Kd.R_below q34_ hb)
                have n2_ := Aside0.mk (below_step (bl_) hb)
                clear HO_15
                clear HO318
                clear HB
                have HO_15 := n0_
                have HO318 := n1_
                have HB := n2_
                clear n0_ n1_ n2_
                (try clear hb)
                (try clear hb2)
                (try clear hk)
                (try clear hi)
                refine hK.out _ _ ⟨HS0_,((HB.out.cell (World.block_lt_of_cell? w _ hw321_0)).trans hw321_0),HS2_,((HB.out.cell (World.block_lt_of_cell? w _ hw325_0)).trans hw325_0),((HB.out.cell (World.block_lt_of_cell? w _ hw326_0)).trans hw326_0)⟩ (fun hHeld=>?_)
                clear hK K
                refine norm_ (a' := ?_) ?_ ?_
                rotate_left
                ·show Act.put _ (some 102) _ = _
                 simp only [Act.put,List.setIfInBounds_toArray,List.set_cons_zero,List.set_cons_succ,i64_w,i32_w]
                 rfl
                refine one_ (i := 9) (N := some 107) #[true,true,true,true,true,true,true,true,true,true,false,false,false,false,false,false,false,false,false,false,false,false,false,false,false,false,false,false,false,false,false] rfl rfl (one_of HT_.out q11_) (by decide) (fun K hK=>?_)
                refine goes_ Tryd.func12 q11_ rfl #[.int .u8 (rd l4 x20_3)] (by rfl) rfl rfl q1_ ?_
                with_reducible refine (batonref22_Word.calls k3 (rd l4 x20_3) t322 _ A44.out).mono ?_
                rintro e w59 ⟨rfl,hb⟩
                have HS0_ := (hb.cell (World.block_lt_of_cell? _ _ (hHeld.1))).trans (hHeld.1)
                have HS2_ := (hb.cell (World.block_lt_of_cell? _ _ (hHeld.2.2.1))).trans (hHeld.2.2.1)
                refine ⟨_,rfl,?_⟩
                have n0_ := Aside0.mk (Kd.R_below q14_ hb)
                have n1_ := Aside0.mk (Kd.R_below q34_ hb)
                have n2_ := Aside0.mk (below_step (bl_) hb)
                clear HO_15
                clear HO318
                clear HB
                have HO_15 := n0_
                have HO318 := n1_
                have HB := n2_
                clear n0_ n1_ n2_
                (try clear hb)
                (try clear hb2)
                (try clear hk)
                (try clear hi)
                refine hK.out _ _ ⟨HS0_,((HB.out.cell (World.block_lt_of_cell? w _ hw321_0)).trans hw321_0),HS2_,((HB.out.cell (World.block_lt_of_cell? w _ hw325_0)).trans hw325_0),((HB.out.cell (World.block_lt_of_cell? w _ hw326_0)).trans hw326_0)⟩ (fun hHeld=>?_)
                clear hK K
                refine norm_ (a' := ?_) ?_ ?_
                rotate_left
                ·show Act.put _ (some 107) _ = _
                 simp only [Act.put,List.setIfInBounds_toArray,List.set_cons_zero,List.set_cons_succ,i64_w,i32_w]
                 rfl
                refine pure_ (i := 10) (N := some 108) (v := ?_) (a' := ?_) #[true,true,true,true,true,true,true,true,true,true,true,false,false,false,false,false,false,false,false,false,false,false,false,false,false,false,false,false,false,false,false] rfl rfl (any_of HT_.out q11_) (fun _ _ _ h=>h) (Or.inl ⟨by rfl,?_⟩) ?_ ?_
                rotate_left
                ·intro w'
                 go_simp
                 with_reducible rfl
                rotate_left
                ·simp only [Act.put,List.setIfInBounds_toArray,List.set_cons_zero,List.set_cons_succ,i64_w,i32_w]
                 rfl
                refine pure_ (i := 11) (N := some 109) (v := ?_) (a' := ?_) #[true,true,true,true,true,true,true,true,true,true,true,true,false,false,false,false,false,false,false,false,false,false,false,false,false,false,false,false,false,false,false] rfl rfl (any_of HT_.out q11_) (fun _ _ _ h=>h) (Or.inl ⟨by rfl,?_⟩) ?_ ?_
                rotate_left
                ·intro w'
                 go_simp
                 with_reducible rfl
                rotate_left
                ·simp only [Act.put,List.setIfInBounds_toArray,List.set_cons_zero,List.set_cons_succ,i64_w,i32_w]
                 rfl
                refine pure_ (i := 12) (N := some 110) (v := ?_) (a' := ?_) #[true,true,true,true,true,true,true,true,true,true,true,true,true,false,false,false,false,false,false,false,false,false,false,false,false,false,false,false,false,false,false] rfl rfl (any_of HT_.out q11_) (fun _ _ _ h=>h) (Or.inl ⟨by rfl,?_⟩) ?_ ?_
                rotate_left
                ·intro w'
                 go_simp
                 with_reducible rfl
                rotate_left
                ·simp only [Act.put,List.setIfInBounds_toArray,List.set_cons_zero,List.set_cons_succ,i64_w,i32_w]
                 rfl
                refine pure_ (i := 13) (N := some 111) (v := ?_) (a' := ?_) #[true,true,true,true,true,true,true,true,true,true,true,true,true,true,false,false,false,false,false,false,false,false,false,false,false,false,false,false,false,false,false] rfl rfl (any_of HT_.out q11_) (fun _ _ _ h=>h) (Or.inl ⟨by rfl,?_⟩) ?_ ?_
                rotate_left
                ·intro w'
                 go_simp
                 with_reducible rfl
                rotate_left
                ·simp only [Act.put,List.setIfInBounds_toArray,List.set_cons_zero,List.set_cons_succ,i64_w,i32_w]
                 rfl
                refine pure_ (i := 14) (N := some 112) (v := ?_) (a' := ?_) #[true,true,true,true,true,true,true,true,true,true,true,true,true,true,true,false,false,false,false,false,false,false,false,false,false,false,false,false,false,false,false] rfl rfl (any_of HT_.out q11_) (fun _ _ _ h=>h) (Or.inl ⟨by rfl,?_⟩) ?_ ?_
                rotate_left
                ·intro w'
                 go_simp
                 with_reducible rfl
                rotate_left
                ·simp only [Act.put,List.setIfInBounds_toArray,List.set_cons_zero,List.set_cons_succ,i64_w,i32_w]
                 rfl
                refine pure_ (i := 17) (N := some 115) (v := ?_) (a' := ?_) #[true,true,true,true,true,true,true,true,true,true,true,true,true,true,true,false,false,true,false,false,false,false,false,false,false,false,false,false,false,false,false] rfl rfl (any_of HT_.out q11_) (fun _ _ _ h=>h) (Or.inl ⟨by rfl,?_⟩) ?_ ?_
                rotate_left
                ·intro w'
                 go_simp
                 with_reducible rfl
                rotate_left
                ·simp only [Act.put,List.setIfInBounds_toArray,List.set_cons_zero,List.set_cons_succ,i64_w,i32_w]
                 rfl
                refine pure_ (i := 18) (N := some 116) (v := ?_) (a' := ?_) #[true,true,true,true,true,true,true,true,true,true,true,true,true,true,true,false,false,true,true,false,false,false,false,false,false,false,false,false,false,false,false] rfl rfl (any_of HT_.out q11_) (fun _ _ _ h=>h) (Or.inl ⟨by rfl,?_⟩) ?_ ?_
                rotate_left
                ·intro w'
                 go_simp
                 with_reducible rfl
                rotate_left
                ·simp only [Act.put,List.setIfInBounds_toArray,List.set_cons_zero,List.set_cons_succ,i64_w,i32_w]
                 rfl
                refine pure_ (i := 19) (N := some 117) (v := ?_) (a' := ?_) #[true,true,true,true,true,true,true,true,true,true,true,true,true,true,true,false,false,true,true,true,false,false,false,false,false,false,false,false,false,false,false] rfl rfl (any_of HT_.out q11_) (fun _ _ _ h=>h) (Or.inl ⟨by rfl,?_⟩) ?_ ?_
                rotate_left
                ·intro w'
                 go_simp
                 with_reducible rfl
                rotate_left
                ·simp only [Act.put,List.setIfInBounds_toArray,List.set_cons_zero,List.set_cons_succ,i64_w,i32_w]
                 rfl
                refine take_ (i := 15) (N := some 113) (v := ?_) (a' := ?_) #[true,true,true,true,true,true,true,true,true,true,true,true,true,true,true,true,false,true,true,true,false,false,false,false,false,false,false,false,false,false,false] rfl rfl (take_ofW HT_.out HW_.out q11_) (fun _ _ _ h=>h) (Or.inl ⟨by rfl,?_⟩) hHeld ?_ ?_
                rotate_left
                ·rintro w' ⟨s0,s1,s2,s3,s4⟩
                 go_simp
                 with_reducible rfl
                rotate_left
                ·simp only [Act.put,List.setIfInBounds_toArray,List.set_cons_zero,List.set_cons_succ,i64_w,i32_w]
                 rfl
                refine take_ (i := 20) (N := some 118) (v := ?_) (a' := ?_) #[true,true,true,true,true,true,true,true,true,true,true,true,true,true,true,true,false,true,true,true,true,false,false,false,false,false,false,false,false,false,false] rfl rfl (take_ofW HT_.out HW_.out q11_) (fun _ _ _ h=>h) (Or.inl ⟨by rfl,?_⟩) hHeld ?_ ?_
                rotate_left
                ·rintro w' ⟨s0,s1,s2,s3,s4⟩
                 go_simp
                 with_reducible rfl
                rotate_left
                ·simp only [Act.put,List.setIfInBounds_toArray,List.set_cons_zero,List.set_cons_succ,i64_w,i32_w]
                 rfl
                refine pure_ (i := 21) (N := some 119) (v := ?_) (a' := ?_) #[true,true,true,true,true,true,true,true,true,true,true,true,true,true,true,true,false,true,true,true,true,true,false,false,false,false,false,false,false,false,false] rfl rfl (any_of HT_.out q11_) (fun _ _ _ h=>h) (Or.inl ⟨by rfl,?_⟩) ?_ ?_
                rotate_left
                ·intro w'
                 go_simp
                 with_reducible rfl
                rotate_left
                ·simp only [Act.put,List.setIfInBounds_toArray,List.set_cons_zero,List.set_cons_succ,i64_w,i32_w]
                 rfl
                refine one_ (i := 16) (N := some 114) #[true,true,true,true,true,true,true,true,true,true,true,true,true,true,true,true,true,true,true,true,true,true,false,false,false,false,false,false,false,false,false] rfl rfl (one_of HT_.out q11_) (by decide) (fun K hK=>?_)
                refine goes_ Tryd.func13 q11_ rfl #[.int .u8 (rd y316 x20_3)] (by rfl) rfl rfl q1_ ?_
                with_reducible refine (series_Verdict_Bad.calls (rd y316 x20_3) t324 _ A46.out).mono ?_
                rintro e w' ⟨rfl,⟨nd,rfl⟩⟩
                refine ⟨_,rfl,?_⟩
                refine hK.out _ _ ⟨hHeld.1,((HB.out.cell (World.block_lt_of_cell? w _ hw321_0)).trans hw321_0),hHeld.2.2.1,((HB.out.cell (World.block_lt_of_cell? w _ hw325_0)).trans hw325_0),((HB.out.cell (World.block_lt_of_cell? w _ hw326_0)).trans hw326_0)⟩ (fun hHeld=>?_)
                clear hK K
                refine norm_ (a' := ?_) ?_ ?_
                rotate_left
                ·show Act.put _ (some 114) _ = _
                 simp only [Act.put,List.setIfInBounds_toArray,List.set_cons_zero,List.set_cons_succ,i64_w,i32_w]
                 rfl
                refine pure_ (i := 22) (N := some 120) (v := ?_) (a' := ?_) #[true,true,true,true,true,true,true,true,true,true,true,true,true,true,true,true,true,true,true,true,true,true,true,false,false,false,false,false,false,false,false] rfl rfl (any_of HT_.out q11_) (fun _ _ _ h=>h) (Or.inl ⟨by rfl,?_⟩) ?_ ?_
                rotate_left
                ·intro w'
                 go_simp
                 with_reducible rfl
                rotate_left
                ·simp only [Act.put,List.setIfInBounds_toArray,List.set_cons_zero,List.set_cons_succ,i64_w,i32_w]
                 rfl
                refine pure_ (i := 23) (N := some 121) (v := ?_) (a' := ?_) #[true,true,true,true,true,true,true,true,true,true,true,true,true,true,true,true,true,true,true,true,true,true,true,true,false,false,false,false,false,false,false] rfl rfl (any_of HT_.out q11_) (fun _ _ _ h=>h) (Or.inl ⟨by rfl,?_⟩) ?_ ?_
                rotate_left
                ·intro w'
                 go_simp
                 with_reducible rfl
                rotate_left
                ·simp only [Act.put,List.setIfInBounds_toArray,List.set_cons_zero,List.set_cons_succ,i64_w,i32_w]
                 rfl
                refine pure_ (i := 24) (N := some 122) (v := ?_) (a' := ?_) #[true,true,true,true,true,true,true,true,true,true,true,true,true,true,true,true,true,true,true,true,true,true,true,true,true,false,false,false,false,false,false] rfl rfl (any_of HT_.out q11_) (fun _ _ _ h=>h) (Or.inl ⟨by rfl,?_⟩) ?_ ?_
                rotate_left
                ·intro w'
                 go_simp
                 with_reducible rfl
                rotate_left
                ·simp only [Act.put,List.setIfInBounds_toArray,List.set_cons_zero,List.set_cons_succ,i64_w,i32_w]
                 rfl
                refine pure_ (i := 25) (N := some 123) (v := ?_) (a' := ?_) #[true,true,true,true,true,true,true,true,true,true,true,true,true,true,true,true,true,true,true,true,true,true,true,true,true,true,false,false,false,false,false] rfl rfl (any_of HT_.out q11_) (fun _ _ _ h=>h) (Or.inl ⟨by rfl,?_⟩) ?_ ?_
                rotate_left
                ·intro w'
                 go_simp
                 with_reducible rfl
                rotate_left
                ·simp only [Act.put,List.setIfInBounds_toArray,List.set_cons_zero,List.set_cons_succ,i64_w,i32_w]
                 rfl
                refine take_ (i := 26) (N := some 124) (v := ?_) (a' := ?_) #[true,true,true,true,true,true,true,true,true,true,true,true,true,true,true,true,true,true,true,true,true,true,true,true,true,true,true,false,false,false,false] rfl rfl (take_ofW HT_.out HW_.out q11_) (fun _ _ _ h=>h) (Or.inl ⟨by rfl,?_⟩) hHeld ?_ ?_
                rotate_left
                ·rintro w' ⟨s0,s1,s2,s3,s4⟩
                 go_simp
                 with_reducible rfl
                rotate_left
                ·simp only [Act.put,List.setIfInBounds_toArray,List.set_cons_zero,List.set_cons_succ,i64_w,i32_w]
                 rfl
                refine pure_ (i := 27) (N := some 125) (v := ?_) (a' := ?_) #[true,true,true,true,true,true,true,true,true,true,true,true,true,true,true,true,true,true,true,true,true,true,true,true,true,true,true,true,false,false,false] rfl rfl (any_of HT_.out q11_) (fun _ _ _ h=>h) (Or.inl ⟨by rfl,?_⟩) ?_ ?_
                rotate_left
                ·intro w'
                 go_simp
                 with_reducible rfl
                rotate_left
                ·simp only [Act.put,List.setIfInBounds_toArray,List.set_cons_zero,List.set_cons_succ,i64_w,i32_w]
                 rfl
                refine pure_ (i := 28) (N := some 126) (v := ?_) (a' := ?_) #[true,true,true,true,true,true,true,true,true,true,true,true,true,true,true,true,true,true,true,true,true,true,true,true,true,true,true,true,true,false,false] rfl rfl (any_of HT_.out q11_) (fun _ _ _ h=>h) (Or.inl ⟨by rfl,?_⟩) ?_ ?_
                rotate_left
                ·intro w'
                 go_simp
                 with_reducible rfl
                rotate_left
                ·simp only [Act.put,List.setIfInBounds_toArray,List.set_cons_zero,List.set_cons_succ,i64_w,i32_w]
                 rfl
                refine pure_ (i := 29) (N := some 127) (v := ?_) (a' := ?_) #[true,true,true,true,true,true,true,true,true,true,true,true,true,true,true,true,true,true,true,true,true,true,true,true,true,true,true,true,true,true,false] rfl rfl (any_of HT_.out q11_) (fun _ _ _ h=>h) (Or.inl ⟨by rfl,?_⟩) ?_ ?_
                rotate_left
                ·intro w'
                 go_simp
                 with_reducible rfl
                rotate_left
                ·simp only [Act.put,List.setIfInBounds_toArray,List.set_cons_zero,List.set_cons_succ,i64_w,i32_w]
                 rfl
                refine pure_ (i := 30) (N := some 128) (v := ?_) (a' := ?_) #[true,true,true,true,true,true,true,true,true,true,true,true,true,true,true,true,true,true,true,true,true,true,true,true,true,true,true,true,true,true,true] rfl rfl (any_of HT_.out q11_) (fun _ _ _ h=>h) (Or.inl ⟨by rfl,?_⟩) ?_ ?_
                rotate_left
                ·intro w'
                 go_simp
                 with_reducible rfl
                rotate_left
                ·simp only [Act.put,List.setIfInBounds_toArray,List.set_cons_zero,List.set_cons_succ,i64_w,i32_w]
                 rfl
                refine done_ (done_of HT_.out q11_) ?_
                try go_wp2
                go_roundg k3
                case measure=>have := HJ5.out;have := HJ15.out;have := HK3.out;omega
                case rel=>exact ⟨(y316),(wrap64 (x20_3 + 1)),q10_,H',⟨by have := HJ5.out;have := HJ15.out;have := HK3.out;omega⟩,⟨q14_⟩,⟨q34_⟩,⟨bl_⟩⟩
             ·rw [if_neg c45] at H
              have c45b0 : (t320.toList == t322.toList) = false := beq_eq_false_iff_ne.mpr c45
              have c45b1 : (t320.toList != t322.toList) = true := bne_iff_ne.mpr c45
              exact absurd H (by simp)
            ·rw [if_neg c42] at H
             exact absurd H (by simp)
           ·rw [if_neg c41] at H
            exact absurd H (by simp)
          ·rw [if_neg c40] at H
           exact absurd H (by simp)
         ·rw [if_neg c39] at H
          have c39b0 : decide (x20_3 < (l4.length : Int)) = false := decide_eq_false c39
          clear c39
          replace H := Option.bind_eq_some_iff.mp H
          obtain ⟨⟨t327,t328,t329,t330,t331⟩,A600,H⟩ := H
          try dsimp only at H
          have A60 := Aside0.mk A600
          clear A600
          replace H := Option.bind_eq_some_iff.mp H
          obtain ⟨t333,A610,H⟩ := H
          try dsimp only at H
          have A61 := Aside0.mk A610
          clear A610
          by_cases c62 : 0 < (t333.length : Int)
          ·rw [if_pos c62] at H
           have c62b0 : decide (0 < (t333.length : Int)) = true := decide_eq_true c62
           have c62b1 : decide (0 < t333.length) = true := decide_eq_true q29_
           clear c62
           by_cases c63 : t327 = (rd t333 0)
           ·rw [if_pos c63] at H
            have c63b0 : (t327 == (rd t333 0)) = true := beq_iff_eq.mpr c63
            have c63b1 : (t327 != (rd t333 0)) = false := bne_eq_false_iff_eq.mpr c63
            clear c63
            by_cases c64 : 1 < (t333.length : Int)
            ·rw [if_pos c64] at H
             have c64b0 : decide (1 < (t333.length : Int)) = true := decide_eq_true c64
             have c64b1 : decide (1 < t333.length) = true := decide_eq_true q29_
             clear c64
             by_cases c65 : t328 = (rd t333 1)
             ·rw [if_pos c65] at H
              have c65b0 : (t328 == (rd t333 1)) = true := beq_iff_eq.mpr c65
              have c65b1 : (t328 != (rd t333 1)) = false := bne_eq_false_iff_eq.mpr c65
              clear c65
              by_cases c66 : 2 < (t333.length : Int)
              ·rw [if_pos c66] at H
               have c66b0 : decide (2 < (t333.length : Int)) = true := decide_eq_true c66
               have c66b1 : decide (2 < t333.length) = true := decide_eq_true q29_
               clear c66
               by_cases c67 : t329 = (rd t333 2)
               ·rw [if_pos c67] at H
                have c67b0 : (t329 == (rd t333 2)) = true := beq_iff_eq.mpr c67
                have c67b1 : (t329 != (rd t333 2)) = false := bne_eq_false_iff_eq.mpr c67
                clear c67
                by_cases c68 : 3 < (t333.length : Int)
                ·rw [if_pos c68] at H
                 have c68b0 : decide (3 < (t333.length : Int)) = true := decide_eq_true c68
                 have c68b1 : decide (3 < t333.length) = true := decide_eq_true q29_
                 clear c68
                 by_cases c69 : t330 = (rd t333 3)
                 ·rw [if_pos c69] at H
                  have c69b0 : (t330 == (rd t333 3)) = true := beq_iff_eq.mpr c69
                  have c69b1 : (t330 != (rd t333 3)) = false := bne_eq_false_iff_eq.mpr c69
                  clear c69
                  by_cases c70 : 4 < (t333.length : Int)
                  ·rw [if_pos c70] at H
                   have c70b0 : decide (4 < (t333.length : Int)) = true := decide_eq_true c70
                   have c70b1 : decide (4 < t333.length) = true := decide_eq_true q29_
                   clear c70
                   by_cases c71 : t331 = (rd t333 4)
                   ·rw [if_pos c71] at H
                    have c71b0 : (t331 == (rd t333 4)) = true := beq_iff_eq.mpr c71
                    have c71b1 : (t331 != (rd t333 4)) = false := bne_eq_false_iff_eq.mpr c71
                    clear c71
                    have H' := Aside0.mk H
                    clear H
                    obtain ⟨Ao72,co72,eo72⟩ := Kd.R_slice HO_19.out
                    subst eo72
                    try go_wp2_with (first|((with_reducible refine gate_callee (f := 14) rfl ?_);refine goesL_ (some 130) rfl rfl Tryd.func14 q11_ rfl #[.slice Ao72 x19_3.length co72] rfl q1_ ?_;(with_reducible refine (series_Count.calls _ _ x19_3 t327 t328 t329 t330 t331 _ ?side1 ?side2 A60.out).mono ?_);(case side1=>repeat (first|exact (Kd.R_reads' HO_19.out).2.2|(with_reducible refine Kd.C_alloc ?_ _)|(with_reducible refine Kd.C_drewN ?_ _)|(with_reducible refine Kd.C_drew ?_)));(case side2=>exact (Kd.R_reads' HO_19.out).2.1);rintro e w73 ⟨rfl,hb⟩;refine ⟨_,rfl,?_⟩;have n0_ := Aside0.mk (Kd.R_below q14_ hb);have n1_ := Aside0.mk (Kd.R_below q33_ hb);have n2_ := Aside0.mk (below_step (bl_) hb);clear HO_15;clear HO_19;clear HB;have HO_15 := n0_;have HO_19 := n1_;have HB := n2_;clear n0_ n1_ n2_;(try clear hb);(try clear hb2);(try clear hk);(try clear hi))|((with_reducible refine gate_dst (N := 21) rfl ?_);(try (refine gate_guard (by rfl) ?_;dsimp only));refine box_event ?hg (N := 21) ?hd (cs := #[.int .i64 0,.int .i64 0,.int .i64 0,.int .i64 0,.int .i64 0]) (t := 34) ?hr ?_;(case hd=>rfl);(case hg=>rfl);(case hr=>first|(go_simp;done)|(go_simp;rfl)|(go_simp;simp [my_u8w];done));intro gb332 hg w74 hbox hb;have n0_ := Aside0.mk (Kd.R_below q14_ hb);have n1_ := Aside0.mk (Kd.R_below q33_ hb);have n2_ := Aside0.mk (below_step (bl_) hb);have n3_ := Aside0.mk (hbox);have n4_ := Aside0.mk ((by rw [hg];exact (below_size (bl_)) : w.heap.size ≤ gb332));have n5_ := Aside0.mk ((by rw [hg];exact (below_size (bl_)) : w.heap.size ≤ gb332));clear HO_15;clear HO_19;clear HB;have HO_15 := n0_;have HO_19 := n1_;have HB := n2_;have BK332 := n3_;have GW332 := n4_;have GE332 := n5_;clear n0_ n1_ n2_ n3_ n4_ n5_;clear hb hbox hg;have hcz75_0 : w74.cell? ⟨gb332,0,none⟩ = some (.int .i64 0) := (blk_cell BK332.out 0).trans rfl;have hcz75_1 : w74.cell? ⟨gb332,1,none⟩ = some (.int .i64 0) := (blk_cell BK332.out 1).trans rfl;have hcz75_2 : w74.cell? ⟨gb332,2,none⟩ = some (.int .i64 0) := (blk_cell BK332.out 2).trans rfl;have hcz75_3 : w74.cell? ⟨gb332,3,none⟩ = some (.int .i64 0) := (blk_cell BK332.out 3).trans rfl;have hcz75_4 : w74.cell? ⟨gb332,4,none⟩ = some (.int .i64 0) := (blk_cell BK332.out 4).trans rfl;have hfz75_0 := blk_frozen BK332.out 0;have hfz75_1 := blk_frozen BK332.out 1;have hfz75_2 := blk_frozen BK332.out 2;have hfz75_3 := blk_frozen BK332.out 3;have hfz75_4 := blk_frozen BK332.out 4)|((with_reducible refine gate_callee (f := 15) rfl ?_);refine goesL_ (some 132) rfl rfl Tryd.func15 q11_ rfl #[.slice A4 l4.length c4] rfl q1_ ?_;(with_reducible refine (batonref22_Count.calls k3 _ _ l4 t333 _ ?side1 ?side2 A61.out).mono ?_);(case side1=>exact Kd.C_below HR4.out q23_);(case side2=>exact HC4.out);rintro e w76 ⟨v334,rfl,ho0,hb⟩;refine ⟨_,rfl,?_⟩;have n0_ := Aside0.mk (Kd.R_below (by (with_reducible repeat (first|apply Kd.R_alloc|apply Kd.R_drewN|apply Kd.R_drew));exact (Kd.R_mono (Kd.R_far (p := ⟨gb332,4,none⟩) (Kd.R_far (p := ⟨gb332,3,none⟩) (Kd.R_far (p := ⟨gb332,2,none⟩) (Kd.R_far (p := ⟨gb332,1,none⟩) (Kd.R_far (p := ⟨gb332,0,none⟩) (Kd.R_types HO_15.out BK332.out (by decide)) (fun _ hk=>hk.2) (.int .i64 t327)) (fun _ hk=>hk.2) (.int .i64 t328)) (fun _ hk=>hk.2) (.int .i64 t329)) (fun _ hk=>hk.2) (.int .i64 t330)) (fun _ hk=>hk.2) (.int .i64 t331)) (fun _ h_=>h_.1))) hb);have n1_ := Aside0.mk (Kd.R_below (by (with_reducible repeat (first|apply Kd.R_alloc|apply Kd.R_drewN|apply Kd.R_drew));exact (Kd.R_mono (Kd.R_far (p := ⟨gb332,4,none⟩) (Kd.R_far (p := ⟨gb332,3,none⟩) (Kd.R_far (p := ⟨gb332,2,none⟩) (Kd.R_far (p := ⟨gb332,1,none⟩) (Kd.R_far (p := ⟨gb332,0,none⟩) (Kd.R_types HO_19.out BK332.out (by decide)) (fun _ hk=>hk.2) (.int .i64 t327)) (fun _ hk=>hk.2) (.int .i64 t328)) (fun _ hk=>hk.2) (.int .i64 t329)) (fun _ hk=>hk.2) (.int .i64 t330)) (fun _ hk=>hk.2) (.int .i64 t331)) (fun _ h_=>h_.1))) hb);have n2_ := Aside0.mk (Kd.R_lower ho0 (below_size q23_));have n3_ := Aside0.mk (blk_below (g := gb332) (o := .cells #[.int .i64 t327,.int .i64 t328,.int .i64 t329,.int .i64 t330,.int .i64 t331] 34 (0,0)) (by (with_reducible repeat (first|refine blk_drewN ?_ _|refine blk_drew ?_|refine blk_alloc ?_ _));refine blk_put (cs := #[.int .i64 t327,.int .i64 t328,.int .i64 t329,.int .i64 t330,.int .i64 0]) ?_ 4 _ rfl;(with_reducible repeat (first|refine blk_drewN ?_ _|refine blk_drew ?_|refine blk_alloc ?_ _));refine blk_put (cs := #[.int .i64 t327,.int .i64 t328,.int .i64 t329,.int .i64 0,.int .i64 0]) ?_ 3 _ rfl;(with_reducible repeat (first|refine blk_drewN ?_ _|refine blk_drew ?_|refine blk_alloc ?_ _));refine blk_put (cs := #[.int .i64 t327,.int .i64 t328,.int .i64 0,.int .i64 0,.int .i64 0]) ?_ 2 _ rfl;(with_reducible repeat (first|refine blk_drewN ?_ _|refine blk_drew ?_|refine blk_alloc ?_ _));refine blk_put (cs := #[.int .i64 t327,.int .i64 0,.int .i64 0,.int .i64 0,.int .i64 0]) ?_ 1 _ rfl;(with_reducible repeat (first|refine blk_drewN ?_ _|refine blk_drew ?_|refine blk_alloc ?_ _));refine blk_put (cs := #[.int .i64 0,.int .i64 0,.int .i64 0,.int .i64 0,.int .i64 0]) ?_ 0 _ rfl;(with_reducible repeat (first|refine blk_drewN ?_ _|refine blk_drew ?_|refine blk_alloc ?_ _));exact BK332.out) hb);have n4_ := Aside0.mk (below_step q23_ hb);clear HO_15;clear HO_19;clear BK332;clear HB;have HO_15 := n0_;have HO_19 := n1_;have HO335 := n2_;have BK332 := n3_;have HB := n4_;clear n0_ n1_ n2_ n3_ n4_;(try clear hb);(try clear hb2);(try clear hk);(try clear hi);(try clear ho0)))
                    refine wp_loop_rounds 6 ?_
                    rw [rounds_succ]
                    try go_wp2
                    have n0_ := Aside0.mk (Kd.R_drew HO_15.out)
                    have n1_ := Aside0.mk (Kd.R_drew HO_19.out)
                    have n2_ := Aside0.mk (Kd.R_drew HO335.out)
                    have n3_ := Aside0.mk (blk_drew BK332.out)
                    have n4_ := Aside0.mk (below_drew1 HB.out)
                    clear HO_15
                    clear HO_19
                    clear HO335
                    clear BK332
                    clear HB
                    have HO_15 := n0_
                    have HO_19 := n1_
                    have HO335 := n2_
                    have BK332 := n3_
                    have HB := n4_
                    clear n0_ n1_ n2_ n3_ n4_
                    obtain ⟨Ao78,co78,eo78⟩ := Kd.R_slice HO335.out
                    (first|subst eo78|(injection eo78 with f1_ f2_ f3_;have f4_ := f1_.symm;have f5_ := f3_.symm;clear f1_ f2_ f3_;subst f4_;subst f5_))
                    have p336 : 0 ≤ (0 : Int) := q29_
                    have q336 : 0 < (t333.length : Int) := of_decide_eq_true q5_
                    obtain ⟨ad336,e336,hx336_0⟩ := Kd.at_int (Kd.R_reads' HO335.out).2.2 0 p336 q336
                    cases e336
                    have qi336 : (0 < t333.length) = True := eq_true q29_
                    (try rw [show ((0 : Int)).toNat = 0 from rfl] at hx336_0)
                    (try rw [Addr.add_zero'] at hx336_0)
                    replace p336 := eq_true p336
                    replace q336 := eq_true q336
                    refine start_ (n := 8) (S := fun w'=>w'.cell? ⟨gb332,0,none⟩ = some (.int .i64 t327) ∧ w'.cell? ⟨gb332,1,none⟩ = some (.int .i64 t328) ∧ w'.cell? ⟨gb332,2,none⟩ = some (.int .i64 t329) ∧ w'.cell? ⟨gb332,3,none⟩ = some (.int .i64 t330) ∧ w'.cell? ⟨gb332,4,none⟩ = some (.int .i64 t331) ∧ w'.cell? ad336 = some (.int .i64 (rd t333 0))) (ds := []) #[false,false,false,false,false,false,false,false] q11_ rfl rfl ⟨(blk_cell BK332.out 0).trans rfl,(blk_cell BK332.out 1).trans rfl,(blk_cell BK332.out 2).trans rfl,(blk_cell BK332.out 3).trans rfl,(blk_cell BK332.out 4).trans rfl,hx336_0⟩ (fun hHeld=>?_);refine with_tabW batonlaw22_SeriesPicks.tab21 batonlaw22_SeriesPicks.bits21 (fun HT_ HW_=>?_)
                    generalize w76.drew = w77 at HO_15 HO_19 HO335 BK332 HB hx336_0 hHeld ⊢
                    refine pure_ (i := 0) (N := some 137) (v := ?_) (a' := ?_) #[true,false,false,false,false,false,false,false] rfl rfl (any_of HT_.out q11_) (fun _ _ _ h=>h) (Or.inl ⟨by rfl,?_⟩) ?_ ?_
                    rotate_left
                    ·intro w'
                     go_simp
                     with_reducible rfl
                    rotate_left
                    ·simp only [Act.put,List.setIfInBounds_toArray,List.set_cons_zero,List.set_cons_succ,i64_w,i32_w]
                     rfl
                    refine pure_ (i := 1) (N := some 138) (v := ?_) (a' := ?_) #[true,true,false,false,false,false,false,false] rfl rfl (any_of HT_.out q11_) (fun _ _ _ h=>h) (Or.inl ⟨by rfl,?_⟩) ?_ ?_
                    rotate_left
                    ·intro w'
                     go_simp
                     with_reducible rfl
                    rotate_left
                    ·simp only [Act.put,List.setIfInBounds_toArray,List.set_cons_zero,List.set_cons_succ,i64_w,i32_w]
                     rfl
                    refine pure_ (i := 3) (N := some 140) (v := ?_) (a' := ?_) #[true,true,false,true,false,false,false,false] rfl rfl (any_of HT_.out q11_) (fun _ _ _ h=>h) (Or.inl ⟨by rfl,?_⟩) ?_ ?_
                    rotate_left
                    ·intro w'
                     go_simp
                     with_reducible rfl
                    rotate_left
                    ·simp only [Act.put,List.setIfInBounds_toArray,List.set_cons_zero,List.set_cons_succ,i64_w,i32_w]
                     rfl
                    refine pure_ (i := 4) (N := some 141) (v := ?_) (a' := ?_) #[true,true,false,true,true,false,false,false] rfl rfl (any_of HT_.out q11_) (fun _ _ _ h=>h) (Or.inl ⟨by rfl,?_⟩) ?_ ?_
                    rotate_left
                    ·intro w'
                     go_simp
                     with_reducible rfl
                    rotate_left
                    ·simp only [Act.put,List.setIfInBounds_toArray,List.set_cons_zero,List.set_cons_succ,i64_w,i32_w]
                     rfl
                    refine pure_ (i := 5) (N := some 142) (v := ?_) (a' := ?_) #[true,true,false,true,true,true,false,false] rfl rfl (any_of HT_.out q11_) (fun _ _ _ h=>h) (Or.inl ⟨by rfl,?_⟩) ?_ ?_
                    rotate_left
                    ·intro w'
                     go_simp
                     with_reducible rfl
                    rotate_left
                    ·simp only [Act.put,List.setIfInBounds_toArray,List.set_cons_zero,List.set_cons_succ,i64_w,i32_w]
                     rfl
                    refine take_ (i := 2) (N := some 139) (v := ?_) (a' := ?_) #[true,true,true,true,true,true,false,false] rfl rfl (take_ofW HT_.out HW_.out q11_) (fun _ _ _ h=>h) (Or.inl ⟨by rfl,?_⟩) hHeld ?_ ?_
                    rotate_left
                    ·rintro w' ⟨s0,s1,s2,s3,s4,s5⟩
                     go_simp
                     with_reducible rfl
                    rotate_left
                    ·simp only [Act.put,List.setIfInBounds_toArray,List.set_cons_zero,List.set_cons_succ,i64_w,i32_w]
                     rfl
                    refine take_ (i := 6) (N := some 143) (v := ?_) (a' := ?_) #[true,true,true,true,true,true,true,false] rfl rfl (take_ofW HT_.out HW_.out q11_) (fun _ _ _ h=>h) (Or.inl ⟨by rfl,?_⟩) hHeld ?_ ?_
                    rotate_left
                    ·rintro w' ⟨s0,s1,s2,s3,s4,s5⟩
                     go_simp
                     with_reducible rfl
                    rotate_left
                    ·simp only [Act.put,List.setIfInBounds_toArray,List.set_cons_zero,List.set_cons_succ,i64_w,i32_w]
                     rfl
                    refine pure_ (i := 7) (N := some 144) (v := ?_) (a' := ?_) #[true,true,true,true,true,true,true,true] rfl rfl (any_of HT_.out q11_) (fun _ _ _ h=>h) (Or.inl ⟨by rfl,?_⟩) ?_ ?_
                    rotate_left
                    ·intro w'
                     go_simp
                     with_reducible rfl
                    rotate_left
                    ·simp only [Act.put,List.setIfInBounds_toArray,List.set_cons_zero,List.set_cons_succ,i64_w,i32_w]
                     rfl
                    refine done_ (done_of HT_.out q11_) ?_
                    try go_wp2
                    rw [rounds_succ]
                    try go_wp2
                    have n0_ := Aside0.mk (Kd.R_drew HO_15.out)
                    have n1_ := Aside0.mk (Kd.R_drew HO_19.out)
                    have n2_ := Aside0.mk (Kd.R_drew HO335.out)
                    have n3_ := Aside0.mk (blk_drew BK332.out)
                    have n4_ := Aside0.mk (below_drew1 HB.out)
                    clear HO_15
                    clear HO_19
                    clear HO335
                    clear BK332
                    clear HB
                    have HO_15 := n0_
                    have HO_19 := n1_
                    have HO335 := n2_
                    have BK332 := n3_
                    have HB := n4_
                    clear n0_ n1_ n2_ n3_ n4_
                    have p337 : 0 ≤ (1 : Int) := q29_
                    have q337 : 1 < (t333.length : Int) := of_decide_eq_true q5_
                    obtain ⟨ad337,e337,hx337_0⟩ := Kd.at_int (Kd.R_reads' HO335.out).2.2 1 p337 q337
                    obtain rfl : ad336 = ad337 := (by injection e337)
                    (try simp only [show (1 : Int).toNat = 1 from rfl,Nat.reduceMul,Nat.reduceEqDiff,Go.Addr.add,↓reduceIte] at hx337_0)
                    have qi337 : (1 < t333.length) = True := eq_true q29_
                    (try rw [show ((1 : Int)).toNat = 1 from rfl] at hx337_0)
                    replace p337 := eq_true p337
                    replace q337 := eq_true q337
                    refine start_ (n := 8) (S := fun w'=>w'.cell? ⟨gb332,0,none⟩ = some (.int .i64 t327) ∧ w'.cell? ⟨gb332,1,none⟩ = some (.int .i64 t328) ∧ w'.cell? ⟨gb332,2,none⟩ = some (.int .i64 t329) ∧ w'.cell? ⟨gb332,3,none⟩ = some (.int .i64 t330) ∧ w'.cell? ⟨gb332,4,none⟩ = some (.int .i64 t331) ∧ w'.cell? ⟨ad336.block,ad336.off + 1,none⟩ = some (.int .i64 (rd t333 1))) (ds := []) #[false,false,false,false,false,false,false,false] q11_ rfl rfl ⟨(blk_cell BK332.out 0).trans rfl,(blk_cell BK332.out 1).trans rfl,(blk_cell BK332.out 2).trans rfl,(blk_cell BK332.out 3).trans rfl,(blk_cell BK332.out 4).trans rfl,hx337_0⟩ (fun hHeld=>?_);refine with_tabW batonlaw22_SeriesPicks.tab21 batonlaw22_SeriesPicks.bits21 (fun HT_ HW_=>?_)
                    generalize w77.drew = w79 at HO_15 HO_19 HO335 BK332 HB hx337_0 hHeld ⊢
                    refine pure_ (i := 0) (N := some 137) (v := ?_) (a' := ?_) #[true,false,false,false,false,false,false,false] rfl rfl (any_of HT_.out q11_) (fun _ _ _ h=>h) (Or.inl ⟨by rfl,?_⟩) ?_ ?_
                    rotate_left
                    ·intro w'
                     go_simp
                     with_reducible rfl
                    rotate_left
                    ·simp only [Act.put,List.setIfInBounds_toArray,List.set_cons_zero,List.set_cons_succ,i64_w,i32_w]
                     rfl
                    refine pure_ (i := 1) (N := some 138) (v := ?_) (a' := ?_) #[true,true,false,false,false,false,false,false] rfl rfl (any_of HT_.out q11_) (fun _ _ _ h=>h) (Or.inl ⟨by rfl,?_⟩) ?_ ?_
                    rotate_left
                    ·intro w'
                     go_simp
                     with_reducible rfl
                    rotate_left
                    ·simp only [Act.put,List.setIfInBounds_toArray,List.set_cons_zero,List.set_cons_succ,i64_w,i32_w]
                     rfl
                    refine pure_ (i := 3) (N := some 140) (v := ?_) (a' := ?_) #[true,true,false,true,false,false,false,false] rfl rfl (any_of HT_.out q11_) (fun _ _ _ h=>h) (Or.inl ⟨by rfl,?_⟩) ?_ ?_
                    rotate_left
                    ·intro w'
                     go_simp
                     with_reducible rfl
                    rotate_left
                    ·simp only [Act.put,List.setIfInBounds_toArray,List.set_cons_zero,List.set_cons_succ,i64_w,i32_w]
                     rfl
                    refine pure_ (i := 4) (N := some 141) (v := ?_) (a' := ?_) #[true,true,false,true,true,false,false,false] rfl rfl (any_of HT_.out q11_) (fun _ _ _ h=>h) (Or.inl ⟨by rfl,?_⟩) ?_ ?_
                    rotate_left
                    ·intro w'
                     go_simp
                     with_reducible rfl
                    rotate_left
                    ·simp only [Act.put,List.setIfInBounds_toArray,List.set_cons_zero,List.set_cons_succ,i64_w,i32_w]
                     rfl
                    refine pure_ (i := 5) (N := some 142) (v := ?_) (a' := ?_) #[true,true,false,true,true,true,false,false] rfl rfl (any_of HT_.out q11_) (fun _ _ _ h=>h) (Or.inl ⟨by rfl,?_⟩) ?_ ?_
                    rotate_left
                    ·intro w'
                     go_simp
                     with_reducible rfl
                    rotate_left
                    ·simp only [Act.put,List.setIfInBounds_toArray,List.set_cons_zero,List.set_cons_succ,i64_w,i32_w]
                     rfl
                    refine take_ (i := 2) (N := some 139) (v := ?_) (a' := ?_) #[true,true,true,true,true,true,false,false] rfl rfl (take_ofW HT_.out HW_.out q11_) (fun _ _ _ h=>h) (Or.inl ⟨by rfl,?_⟩) hHeld ?_ ?_
                    rotate_left
                    ·rintro w' ⟨s0,s1,s2,s3,s4,s5⟩
                     go_simp
                     with_reducible rfl
                    rotate_left
                    ·simp only [Act.put,List.setIfInBounds_toArray,List.set_cons_zero,List.set_cons_succ,i64_w,i32_w]
                     rfl
                    refine take_ (i := 6) (N := some 143) (v := ?_) (a' := ?_) #[true,true,true,true,true,true,true,false] rfl rfl (take_ofW HT_.out HW_.out q11_) (fun _ _ _ h=>h) (Or.inl ⟨by rfl,?_⟩) hHeld ?_ ?_
                    rotate_left
                    ·rintro w' ⟨s0,s1,s2,s3,s4,s5⟩
                     go_simp
                     with_reducible rfl
                    rotate_left
                    ·simp only [Act.put,List.setIfInBounds_toArray,List.set_cons_zero,List.set_cons_succ,i64_w,i32_w]
                     rfl
                    refine pure_ (i := 7) (N := some 144) (v := ?_) (a' := ?_) #[true,true,true,true,true,true,true,true] rfl rfl (any_of HT_.out q11_) (fun _ _ _ h=>h) (Or.inl ⟨by rfl,?_⟩) ?_ ?_
                    rotate_left
                    ·intro w'
                     go_simp
                     with_reducible rfl
                    rotate_left
                    ·simp only [Act.put,List.setIfInBounds_toArray,List.set_cons_zero,List.set_cons_succ,i64_w,i32_w]
                     rfl
                    refine done_ (done_of HT_.out q11_) ?_
                    try go_wp2
                    rw [rounds_succ]
                    try go_wp2
                    have n0_ := Aside0.mk (Kd.R_drew HO_15.out)
                    have n1_ := Aside0.mk (Kd.R_drew HO_19.out)
                    have n2_ := Aside0.mk (Kd.R_drew HO335.out)
                    have n3_ := Aside0.mk (blk_drew BK332.out)
                    have n4_ := Aside0.mk (below_drew1 HB.out)
                    clear HO_15
                    clear HO_19
                    clear HO335
                    clear BK332
                    clear HB
                    have HO_15 := n0_
                    have HO_19 := n1_
                    have HO335 := n2_
                    have BK332 := n3_
                    have HB := n4_
                    clear n0_ n1_ n2_ n3_ n4_
                    have p338 : 0 ≤ (2 : Int) := q29_
                    have q338 : 2 < (t333.length : Int) := of_decide_eq_true q5_
                    obtain ⟨ad338,e338,hx338_0⟩ := Kd.at_int (Kd.R_reads' HO335.out).2.2 2 p338 q338
                    obtain rfl : ad336 = ad338 := (by injection e338)
                    (try simp only [show (2 : Int).toNat = 2 from rfl,Nat.reduceMul,Nat.reduceEqDiff,Go.Addr.add,↓reduceIte] at hx338_0)
                    have qi338 : (2 < t333.length) = True := eq_true q29_
                    (try rw [show ((2 : Int)).toNat = 2 from rfl] at hx338_0)
                    replace p338 := eq_true p338
                    replace q338 := eq_true q338
                    refine start_ (n := 8) (S := fun w'=>w'.cell? ⟨gb332,0,none⟩ = some (.int .i64 t327) ∧ w'.cell? ⟨gb332,1,none⟩ = some (.int .i64 t328) ∧ w'.cell? ⟨gb332,2,none⟩ = some (.int .i64 t329) ∧ w'.cell? ⟨gb332,3,none⟩ = some (.int .i64 t330) ∧ w'.cell? ⟨gb332,4,none⟩ = some (.int .i64 t331) ∧ w'.cell? ⟨ad336.block,ad336.off + 2,none⟩ = some (.int .i64 (rd t333 2))) (ds := []) #[false,false,false,false,false,false,false,false] q11_ rfl rfl ⟨(blk_cell BK332.out 0).trans rfl,(blk_cell BK332.out 1).trans rfl,(blk_cell BK332.out 2).trans rfl,(blk_cell BK332.out 3).trans rfl,(blk_cell BK332.out 4).trans rfl,hx338_0⟩ (fun hHeld=>?_);refine with_tabW batonlaw22_SeriesPicks.tab21 batonlaw22_SeriesPicks.bits21 (fun HT_ HW_=>?_)
                    generalize w79.drew = w80 at HO_15 HO_19 HO335 BK332 HB hx338_0 hHeld ⊢
                    refine pure_ (i := 0) (N := some 137) (v := ?_) (a' := ?_) #[true,false,false,false,false,false,false,false] rfl rfl (any_of HT_.out q11_) (fun _ _ _ h=>h) (Or.inl ⟨by rfl,?_⟩) ?_ ?_
                    rotate_left
                    ·intro w'
                     go_simp
                     with_reducible rfl
                    rotate_left
                    ·simp only [Act.put,List.setIfInBounds_toArray,List.set_cons_zero,List.set_cons_succ,i64_w,i32_w]
                     rfl
                    refine pure_ (i := 1) (N := some 138) (v := ?_) (a' := ?_) #[true,true,false,false,false,false,false,false] rfl rfl (any_of HT_.out q11_) (fun _ _ _ h=>h) (Or.inl ⟨by rfl,?_⟩) ?_ ?_
                    rotate_left
                    ·intro w'
                     go_simp
                     with_reducible rfl
                    rotate_left
                    ·simp only [Act.put,List.setIfInBounds_toArray,List.set_cons_zero,List.set_cons_succ,i64_w,i32_w]
                     rfl
                    refine pure_ (i := 3) (N := some 140) (v := ?_) (a' := ?_) #[true,true,false,true,false,false,false,false] rfl rfl (any_of HT_.out q11_) (fun _ _ _ h=>h) (Or.inl ⟨by rfl,?_⟩) ?_ ?_
                    rotate_left
                    ·intro w'
                     go_simp
                     with_reducible rfl
                    rotate_left
                    ·simp only [Act.put,List.setIfInBounds_toArray,List.set_cons_zero,List.set_cons_succ,i64_w,i32_w]
                     rfl
                    refine pure_ (i := 4) (N := some 141) (v := ?_) (a' := ?_) #[true,true,false,true,true,false,false,false] rfl rfl (any_of HT_.out q11_) (fun _ _ _ h=>h) (Or.inl ⟨by rfl,?_⟩) ?_ ?_
                    rotate_left
                    ·intro w'
                     go_simp
                     with_reducible rfl
                    rotate_left
                    ·simp only [Act.put,List.setIfInBounds_toArray,List.set_cons_zero,List.set_cons_succ,i64_w,i32_w]
                     rfl
                    refine pure_ (i := 5) (N := some 142) (v := ?_) (a' := ?_) #[true,true,false,true,true,true,false,false] rfl rfl (any_of HT_.out q11_) (fun _ _ _ h=>h) (Or.inl ⟨by rfl,?_⟩) ?_ ?_
                    rotate_left
                    ·intro w'
                     go_simp
                     with_reducible rfl
                    rotate_left
                    ·simp only [Act.put,List.setIfInBounds_toArray,List.set_cons_zero,List.set_cons_succ,i64_w,i32_w]
                     rfl
                    refine take_ (i := 2) (N := some 139) (v := ?_) (a' := ?_) #[true,true,true,true,true,true,false,false] rfl rfl (take_ofW HT_.out HW_.out q11_) (fun _ _ _ h=>h) (Or.inl ⟨by rfl,?_⟩) hHeld ?_ ?_
                    rotate_left
                    ·rintro w' ⟨s0,s1,s2,s3,s4,s5⟩
                     go_simp
                     with_reducible rfl
                    rotate_left
                    ·simp only [Act.put,List.setIfInBounds_toArray,List.set_cons_zero,List.set_cons_succ,i64_w,i32_w]
                     rfl
                    refine take_ (i := 6) (N := some 143) (v := ?_) (a' := ?_) #[true,true,true,true,true,true,true,false] rfl rfl (take_ofW HT_.out HW_.out q11_) (fun _ _ _ h=>h) (Or.inl ⟨by rfl,?_⟩) hHeld ?_ ?_
                    rotate_left
                    ·rintro w' ⟨s0,s1,s2,s3,s4,s5⟩
                     go_simp
                     with_reducible rfl
                    rotate_left
                    ·simp only [Act.put,List.setIfInBounds_toArray,List.set_cons_zero,List.set_cons_succ,i64_w,i32_w]
                     rfl
                    refine pure_ (i := 7) (N := some 144) (v := ?_) (a' := ?_) #[true,true,true,true,true,true,true,true] rfl rfl (any_of HT_.out q11_) (fun _ _ _ h=>h) (Or.inl ⟨by rfl,?_⟩) ?_ ?_
                    rotate_left
                    ·intro w'
                     go_simp
                     with_reducible rfl
                    rotate_left
                    ·simp only [Act.put,List.setIfInBounds_toArray,List.set_cons_zero,List.set_cons_succ,i64_w,i32_w]
                     rfl
                    refine done_ (done_of HT_.out q11_) ?_
                    try go_wp2
                    rw [rounds_succ]
                    try go_wp2
                    have n0_ := Aside0.mk (Kd.R_drew HO_15.out)
                    have n1_ := Aside0.mk (Kd.R_drew HO_19.out)
                    have n2_ := Aside0.mk (Kd.R_drew HO335.out)
                    have n3_ := Aside0.mk (blk_drew BK332.out)
                    have n4_ := Aside0.mk (below_drew1 HB.out)
                    clear HO_15
                    clear HO_19
                    clear HO335
                    clear BK332
                    clear HB
                    have HO_15 := n0_
                    have HO_19 := n1_
                    have HO335 := n2_
                    have BK332 := n3_
                    have HB := n4_
                    clear n0_ n1_ n2_ n3_ n4_
                    have p339 : 0 ≤ (3 : Int) := q29_
                    have q339 : 3 < (t333.length : Int) := of_decide_eq_true q5_
                    obtain ⟨ad339,e339,hx339_0⟩ := Kd.at_int (Kd.R_reads' HO335.out).2.2 3 p339 q339
                    obtain rfl : ad336 = ad339 := (by injection e339)
                    (try simp only [show (3 : Int).toNat = 3 from rfl,Nat.reduceMul,Nat.reduceEqDiff,Go.Addr.add,↓reduceIte] at hx339_0)
                    have qi339 : (3 < t333.length) = True := eq_true q29_
                    (try rw [show ((3 : Int)).toNat = 3 from rfl] at hx339_0)
                    replace p339 := eq_true p339
                    replace q339 := eq_true q339
                    refine start_ (n := 8) (S := fun w'=>w'.cell? ⟨gb332,0,none⟩ = some (.int .i64 t327) ∧ w'.cell? ⟨gb332,1,none⟩ = some (.int .i64 t328) ∧ w'.cell? ⟨gb332,2,none⟩ = some (.int .i64 t329) ∧ w'.cell? ⟨gb332,3,none⟩ = some (.int .i64 t330) ∧ w'.cell? ⟨gb332,4,none⟩ = some (.int .i64 t331) ∧ w'.cell? ⟨ad336.block,ad336.off + 3,none⟩ = some (.int .i64 (rd t333 3))) (ds := []) #[false,false,false,false,false,false,false,false] q11_ rfl rfl ⟨(blk_cell BK332.out 0).trans rfl,(blk_cell BK332.out 1).trans rfl,(blk_cell BK332.out 2).trans rfl,(blk_cell BK332.out 3).trans rfl,(blk_cell BK332.out 4).trans rfl,hx339_0⟩ (fun hHeld=>?_);refine with_tabW batonlaw22_SeriesPicks.tab21 batonlaw22_SeriesPicks.bits21 (fun HT_ HW_=>?_)
                    generalize w80.drew = w81 at HO_15 HO_19 HO335 BK332 HB hx339_0 hHeld ⊢
                    refine pure_ (i := 0) (N := some 137) (v := ?_) (a' := ?_) #[true,false,false,false,false,false,false,false] rfl rfl (any_of HT_.out q11_) (fun _ _ _ h=>h) (Or.inl ⟨by rfl,?_⟩) ?_ ?_
                    rotate_left
                    ·intro w'
                     go_simp
                     with_reducible rfl
                    rotate_left
                    ·simp only [Act.put,List.setIfInBounds_toArray,List.set_cons_zero,List.set_cons_succ,i64_w,i32_w]
                     rfl
                    refine pure_ (i := 1) (N := some 138) (v := ?_) (a' := ?_) #[true,true,false,false,false,false,false,false] rfl rfl (any_of HT_.out q11_) (fun _ _ _ h=>h) (Or.inl ⟨by rfl,?_⟩) ?_ ?_
                    rotate_left
                    ·intro w'
                     go_simp
                     with_reducible rfl
                    rotate_left
                    ·simp only [Act.put,List.setIfInBounds_toArray,List.set_cons_zero,List.set_cons_succ,i64_w,i32_w]
                     rfl
                    refine pure_ (i := 3) (N := some 140) (v := ?_) (a' := ?_) #[true,true,false,true,false,false,false,false] rfl rfl (any_of HT_.out q11_) (fun _ _ _ h=>h) (Or.inl ⟨by rfl,?_⟩) ?_ ?_
                    rotate_left
                    ·intro w'
                     go_simp
                     with_reducible rfl
                    rotate_left
                    ·simp only [Act.put,List.setIfInBounds_toArray,List.set_cons_zero,List.set_cons_succ,i64_w,i32_w]
                     rfl
                    refine pure_ (i := 4) (N := some 141) (v := ?_) (a' := ?_) #[true,true,false,true,true,false,false,false] rfl rfl (any_of HT_.out q11_) (fun _ _ _ h=>h) (Or.inl ⟨by rfl,?_⟩) ?_ ?_
                    rotate_left
                    ·intro w'
                     go_simp
                     with_reducible rfl
                    rotate_left
                    ·simp only [Act.put,List.setIfInBounds_toArray,List.set_cons_zero,List.set_cons_succ,i64_w,i32_w]
                     rfl
                    refine pure_ (i := 5) (N := some 142) (v := ?_) (a' := ?_) #[true,true,false,true,true,true,false,false] rfl rfl (any_of HT_.out q11_) (fun _ _ _ h=>h) (Or.inl ⟨by rfl,?_⟩) ?_ ?_
                    rotate_left
                    ·intro w'
                     go_simp
                     with_reducible rfl
                    rotate_left
                    ·simp only [Act.put,List.setIfInBounds_toArray,List.set_cons_zero,List.set_cons_succ,i64_w,i32_w]
                     rfl
                    refine take_ (i := 2) (N := some 139) (v := ?_) (a' := ?_) #[true,true,true,true,true,true,false,false] rfl rfl (take_ofW HT_.out HW_.out q11_) (fun _ _ _ h=>h) (Or.inl ⟨by rfl,?_⟩) hHeld ?_ ?_
                    rotate_left
                    ·rintro w' ⟨s0,s1,s2,s3,s4,s5⟩
                     go_simp
                     with_reducible rfl
                    rotate_left
                    ·simp only [Act.put,List.setIfInBounds_toArray,List.set_cons_zero,List.set_cons_succ,i64_w,i32_w]
                     rfl
                    refine take_ (i := 6) (N := some 143) (v := ?_) (a' := ?_) #[true,true,true,true,true,true,true,false] rfl rfl (take_ofW HT_.out HW_.out q11_) (fun _ _ _ h=>h) (Or.inl ⟨by rfl,?_⟩) hHeld ?_ ?_
                    rotate_left
                    ·rintro w' ⟨s0,s1,s2,s3,s4,s5⟩
                     go_simp
                     with_reducible rfl
                    rotate_left
                    ·simp only [Act.put,List.setIfInBounds_toArray,List.set_cons_zero,List.set_cons_succ,i64_w,i32_w]
                     rfl
                    refine pure_ (i := 7) (N := some 144) (v := ?_) (a' := ?_) #[true,true,true,true,true,true,true,true] rfl rfl (any_of HT_.out q11_) (fun _ _ _ h=>h) (Or.inl ⟨by rfl,?_⟩) ?_ ?_
                    rotate_left
                    ·intro w'
                     go_simp
                     with_reducible rfl
                    rotate_left
                    ·simp only [Act.put,List.setIfInBounds_toArray,List.set_cons_zero,List.set_cons_succ,i64_w,i32_w]
                     rfl
                    refine done_ (done_of HT_.out q11_) ?_
                    try go_wp2
                    rw [rounds_succ]
                    try go_wp2
                    have n0_ := Aside0.mk (Kd.R_drew HO_15.out)
                    have n1_ := Aside0.mk (Kd.R_drew HO_19.out)
                    have n2_ := Aside0.mk (Kd.R_drew HO335.out)
                    have n3_ := Aside0.mk (blk_drew BK332.out)
                    have n4_ := Aside0.mk (below_drew1 HB.out)
                    clear HO_15
                    clear HO_19
                    clear HO335
                    clear BK332
                    clear HB
                    have HO_15 := n0_
                    have HO_19 := n1_
                    have HO335 := n2_
                    have BK332 := n3_
                    have HB := n4_
                    clear n0_ n1_ n2_ n3_ n4_
                    have p340 : 0 ≤ (4 : Int) := q29_
                    have q340 : 4 < (t333.length : Int) := of_decide_eq_true q5_
                    obtain ⟨ad340,e340,hx340_0⟩ := Kd.at_int (Kd.R_reads' HO335.out).2.2 4 p340 q340
                    obtain rfl : ad336 = ad340 := (by injection e340)
                    (try simp only [show (4 : Int).toNat = 4 from rfl,Nat.reduceMul,Nat.reduceEqDiff,Go.Addr.add,↓reduceIte] at hx340_0)
                    have qi340 : (4 < t333.length) = True := eq_true q29_
                    (try rw [show ((4 : Int)).toNat = 4 from rfl] at hx340_0)
                    replace p340 := eq_true p340
                    replace q340 := eq_true q340
                    refine start_ (n := 8) (S := fun w'=>w'.cell? ⟨gb332,0,none⟩ = some (.int .i64 t327) ∧ w'.cell? ⟨gb332,1,none⟩ = some (.int .i64 t328) ∧ w'.cell? ⟨gb332,2,none⟩ = some (.int .i64 t329) ∧ w'.cell? ⟨gb332,3,none⟩ = some (.int .i64 t330) ∧ w'.cell? ⟨gb332,4,none⟩ = some (.int .i64 t331) ∧ w'.cell? ⟨ad336.block,ad336.off + 4,none⟩ = some (.int .i64 (rd t333 4))) (ds := []) #[false,false,false,false,false,false,false,false] q11_ rfl rfl ⟨(blk_cell BK332.out 0).trans rfl,(blk_cell BK332.out 1).trans rfl,(blk_cell BK332.out 2).trans rfl,(blk_cell BK332.out 3).trans rfl,(blk_cell BK332.out 4).trans rfl,hx340_0⟩ (fun hHeld=>?_);refine with_tabW batonlaw22_SeriesPicks.tab21 batonlaw22_SeriesPicks.bits21 (fun HT_ HW_=>?_)
                    generalize w81.drew = w82 at HO_15 HO_19 HO335 BK332 HB hx340_0 hHeld ⊢
                    refine pure_ (i := 0) (N := some 137) (v := ?_) (a' := ?_) #[true,false,false,false,false,false,false,false] rfl rfl (any_of HT_.out q11_) (fun _ _ _ h=>h) (Or.inl ⟨by rfl,?_⟩) ?_ ?_
                    rotate_left
                    ·intro w'
                     go_simp
                     with_reducible rfl
                    rotate_left
                    ·simp only [Act.put,List.setIfInBounds_toArray,List.set_cons_zero,List.set_cons_succ,i64_w,i32_w]
                     rfl
                    refine pure_ (i := 1) (N := some 138) (v := ?_) (a' := ?_) #[true,true,false,false,false,false,false,false] rfl rfl (any_of HT_.out q11_) (fun _ _ _ h=>h) (Or.inl ⟨by rfl,?_⟩) ?_ ?_
                    rotate_left
                    ·intro w'
                     go_simp
                     with_reducible rfl
                    rotate_left
                    ·simp only [Act.put,List.setIfInBounds_toArray,List.set_cons_zero,List.set_cons_succ,i64_w,i32_w]
                     rfl
                    refine pure_ (i := 3) (N := some 140) (v := ?_) (a' := ?_) #[true,true,false,true,false,false,false,false] rfl rfl (any_of HT_.out q11_) (fun _ _ _ h=>h) (Or.inl ⟨by rfl,?_⟩) ?_ ?_
                    rotate_left
                    ·intro w'
                     go_simp
                     with_reducible rfl
                    rotate_left
                    ·simp only [Act.put,List.setIfInBounds_toArray,List.set_cons_zero,List.set_cons_succ,i64_w,i32_w]
                     rfl
                    refine pure_ (i := 4) (N := some 141) (v := ?_) (a' := ?_) #[true,true,false,true,true,false,false,false] rfl rfl (any_of HT_.out q11_) (fun _ _ _ h=>h) (Or.inl ⟨by rfl,?_⟩) ?_ ?_
                    rotate_left
                    ·intro w'
                     go_simp
                     with_reducible rfl
                    rotate_left
                    ·simp only [Act.put,List.setIfInBounds_toArray,List.set_cons_zero,List.set_cons_succ,i64_w,i32_w]
                     rfl
                    refine pure_ (i := 5) (N := some 142) (v := ?_) (a' := ?_) #[true,true,false,true,true,true,false,false] rfl rfl (any_of HT_.out q11_) (fun _ _ _ h=>h) (Or.inl ⟨by rfl,?_⟩) ?_ ?_
                    rotate_left
                    ·intro w'
                     go_simp
                     with_reducible rfl
                    rotate_left
                    ·simp only [Act.put,List.setIfInBounds_toArray,List.set_cons_zero,List.set_cons_succ,i64_w,i32_w]
                     rfl
                    refine take_ (i := 2) (N := some 139) (v := ?_) (a' := ?_) #[true,true,true,true,true,true,false,false] rfl rfl (take_ofW HT_.out HW_.out q11_) (fun _ _ _ h=>h) (Or.inl ⟨by rfl,?_⟩) hHeld ?_ ?_
                    rotate_left
                    ·rintro w' ⟨s0,s1,s2,s3,s4,s5⟩
                     go_simp
                     with_reducible rfl
                    rotate_left
                    ·simp only [Act.put,List.setIfInBounds_toArray,List.set_cons_zero,List.set_cons_succ,i64_w,i32_w]
                     rfl
                    refine take_ (i := 6) (N := some 143) (v := ?_) (a' := ?_) #[true,true,true,true,true,true,true,false] rfl rfl (take_ofW HT_.out HW_.out q11_) (fun _ _ _ h=>h) (Or.inl ⟨by rfl,?_⟩) hHeld ?_ ?_
                    rotate_left
                    ·rintro w' ⟨s0,s1,s2,s3,s4,s5⟩
                     go_simp
                     with_reducible rfl
                    rotate_left
                    ·simp only [Act.put,List.setIfInBounds_toArray,List.set_cons_zero,List.set_cons_succ,i64_w,i32_w]
                     rfl
                    refine pure_ (i := 7) (N := some 144) (v := ?_) (a' := ?_) #[true,true,true,true,true,true,true,true] rfl rfl (any_of HT_.out q11_) (fun _ _ _ h=>h) (Or.inl ⟨by rfl,?_⟩) ?_ ?_
                    rotate_left
                    ·intro w'
                     go_simp
                     with_reducible rfl
                    rotate_left
                    ·simp only [Act.put,List.setIfInBounds_toArray,List.set_cons_zero,List.set_cons_succ,i64_w,i32_w]
                     rfl
                    refine done_ (done_of HT_.out q11_) ?_
                    try go_wp2
                    rw [rounds_succ]
                    try go_wp2
                    go_loopg [24] k3 (fun kq v24 w'=>∃ (x15_4 : List (S40)) (x24_4 : Int),v24 = .int .i64 x24_4 ∧ Aside0 (batonlaw22_SeriesPicks.l2 kq x15_4 x24_4 = some r) ∧ Aside0 (kq ≤ k3) ∧ Aside0 (Kd.R k40 40 w' w.heap.size (fun _=>True) v307 x15_4) ∧ Aside0 (w'.heap[gb332]? = some (.cells #[.int .i64 t327,.int .i64 t328,.int .i64 t329,.int .i64 t330,.int .i64 t331] 34 (0,0))) ∧ Aside0 (Below w.heap.size w w'))
                    case atStart=>exact ⟨(t305),(0),q10_,H',⟨Nat.le_refl _⟩,⟨q14_⟩,⟨q43_⟩,⟨q23_⟩⟩
                    case round =>
                     clear H'
                     try clear c1
                     try clear p2
                     try clear c3
                     try clear p3
                     try clear q3
                     try clear hx3
                     try clear qi3
                     try clear c4
                     try clear c6
                     try clear p6
                     try clear c7
                     try clear c14
                     try clear c15
                     try clear p33
                     try clear q33
                     try clear hx33
                     try clear qi33
                     try clear p34
                     try clear q34
                     try clear hx34
                     try clear qi34
                     try clear c39
                     try clear c39b0
                     try clear c40
                     try clear c41
                     try clear c42
                     try clear c45
                     try clear c45b0
                     try clear c45b1
                     try clear c62
                     try clear c62b0
                     try clear c62b1
                     try clear c63
                     try clear c63b0
                     try clear c63b1
                     try clear c64
                     try clear c64b0
                     try clear c64b1
                     try clear p64
                     try clear c65
                     try clear c65b0
                     try clear c65b1
                     try clear c66
                     try clear c66b0
                     try clear c66b1
                     try clear c67
                     try clear c67b0
                     try clear c67b1
                     try clear c68
                     try clear c68b0
                     try clear c68b1
                     try clear c69
                     try clear c69b0
                     try clear c69b1
                     try clear c70
                     try clear c70b0
                     try clear c70b1
                     try clear c71
                     try clear c71b0
                     try clear c71b1
                     try clear hcz75_0
                     try clear hcz75_1
                     try clear hcz75_2
                     try clear hcz75_3
                     try clear hcz75_4
                     try clear hfz75_0
                     try clear hfz75_1
                     try clear hfz75_2
                     try clear hfz75_3
                     try clear hfz75_4
                     try clear hx336_0
                     try clear hx337_0
                     try clear hx338_0
                     try clear hx339_0
                     try clear hx340_0
                     try clear p336
                     try clear p337
                     try clear p338
                     try clear p339
                     try clear p340
                     try clear q336
                     try clear q337
                     try clear q338
                     try clear q339
                     try clear q340
                     obtain ⟨x15_4,x24_4,rfl,HA,HK4,HO_15,BK332,HB⟩ := hrel
                     cases gk with
                     | zero=>exact absurd HA.out (by simp [batonlaw22_SeriesPicks.l2])
                     | succ k4 =>
                      have H := HA.out
                      clear HA
                      simp only [batonlaw22_SeriesPicks.l2] at H
                      by_cases c83 : x24_4 < (x15_4.length : Int)
                      ·rw [if_pos c83] at H
                       have c83b0 : decide (x24_4 < (x15_4.length : Int)) = true := decide_eq_true c83
                       clear c83
                       by_cases c84 : 0 ≤ x24_4
                       ·rw [if_pos c84] at H
                        have c84b0 : decide (0 ≤ x24_4) = true := decide_eq_true c84
                        clear c84
                        obtain ⟨y341,hy341⟩ : ∃ y_ : List (S40),y_ = (x15_4.set (x24_4 : Int).toNat (⟨(-7),(rd_T40 x15_4 x24_4).f1⟩ : S40)) := ⟨_,rfl⟩
                        replace H : (batonlaw22_SeriesPicks.l2 k4 y341 (wrap64 (x24_4 + 1))) = some r := by first|(rw [hy341];with_reducible exact H)|(have H2_ := (Option.bind_some _ _).symm.trans H;rw [hy341];with_reducible exact H2_)|(have H2_ := (Option.bind_some _ _).symm.trans H;with_reducible exact H2_)|with_reducible exact H|(rw [hy341];exact H)|exact H
                        have Ny341 := Aside0.mk hy341
                        clear hy341
                        have H' := Aside0.mk H
                        clear H
                        obtain ⟨Ao86,co86,eo86⟩ := Kd.R_slice HO_15.out
                        subst eo86
                        have p85 : 0 ≤ (x24_4 : Int) := of_decide_eq_true q5_
                        have q85 : (x24_4 : Int) < ((x15_4.length : Int) : Int) := of_decide_eq_true q5_
                        obtain ⟨go85,co85,eo85,gb85,gl85,cl85,HG85⟩ := Kd.R_form HO_15.out q29_
                        (first|cases eo85|(injection eo85 with ea_ en_ ec_;(first|subst ea_|(injection ea_ with ea_;subst ea_));subst ec_;clear en_))
                        have GB85 := Aside0.mk gb85
                        have GG85 := Aside0.mk HG85
                        clear gb85 gl85 HG85
                        obtain ⟨ce85,hcl85,hM85,hcc85,hfr85⟩ := Kd.R_elem HO_15.out z40 (x24_4 : Int) p85 q85
                        obtain rfl := k40_openM hM85
                        have hx85_0 : wr.cell? ⟨go85,(x24_4 : Int).toNat * 2,none⟩ = some (.int .i64 ((rd_T40 x15_4 x24_4).f0)) := hcc85 0 _ rfl
                        have hx85_1 : wr.cell? ⟨go85,(x24_4 : Int).toNat * 2 + 1,none⟩ = some (.int .u64 ((rd_T40 x15_4 x24_4).f1)) := hcc85 1 _ rfl
                        have hf85_0 : wr.frozen? ⟨go85,(x24_4 : Int).toNat * 2,none⟩ = false := hfr85 0
                        have hf85_1 : wr.frozen? ⟨go85,(x24_4 : Int).toNat * 2 + 1,none⟩ = false := hfr85 1
                        clear hcl85 hcc85 hfr85 hM85
                        replace p85 := eq_true p85
                        replace q85 := eq_true q85
                        have HX87 := Aside0.mk (show Kd.R k40 40 wr w.heap.size (fun _=>True) (.slice (some ⟨go85,0,none⟩) x15_4.length co86) x15_4 from q14_)
                        obtain ⟨ce87,hcl87,hM87,hcc87,hfr87⟩ := Kd.R_elem HX87.out z40 (x24_4 : Int) (of_decide_eq_true q5_) (by have h_ : (x24_4 : Int) < ((x15_4.length : Int) : Int) := of_decide_eq_true q5_;first|exact h_|(have e_ := (Kd.R_reads' HO_15.out).1;omega)|simpa using h_)
                        obtain rfl := k40_openM hM87
                        have HP87 := Kd.R_seg HX87.out (x24_4 : Int) (of_decide_eq_true q5_) (by have h_ : (x24_4 : Int) < ((x15_4.length : Int) : Int) := of_decide_eq_true q5_;first|exact h_|(have e_ := (Kd.R_reads' HO_15.out).1;omega)|simpa using h_) (seg := [.int .i64 (-7)]) (j := 0) hcl87 hcc87 (show 1 ≤ 2 from by decide) (x' := (⟨(-7),(rd_T40 x15_4 x24_4).f1⟩ : S40)) (k40_mkM _ _ _ (⟨(-7),(rd_T40 x15_4 x24_4).f1⟩ : S40) ) (fun _ hk=>hk)
                        have hx87_0 := hcc87 0 _ rfl
                        (try simp only [show (k40).sz = 2 from rfl,Nat.mul_one,Nat.add_zero] at hx87_0)
                        have hf87_0 := hfr87 0
                        (try simp only [show (k40).sz = 2 from rfl,Nat.mul_one,Nat.add_zero] at hf87_0)
                        clear hcl87 hcc87 hfr87 hM87
                        go_wp2_with (first|((with_reducible refine gate_store (t := 2) (p := 154) rfl ?_);refine store_event (t := 2) (p := 154) (v := ?vo_w88) (w1 := (wr.setCell ⟨go85,(x24_4 : Int).toNat * 2,none⟩ (.int .i64 (-7)))) ?hg ?ho ?hn ?hr ?_;(case ho=>rfl);(case hg=>rfl);(case hn=>rfl);(case hr=>first|(go_simp;done)|(go_simp;rfl)|(go_simp;simp [my_u8w];done));intro w88 hw;have hg : wr.grownBy w88 (some go85) := (by rw [hw];exact HP87.2);have hp_ : Kd.R k40 40 w88 w.heap.size (fun _=>True) (.slice (some ⟨go85,0,none⟩) x15_4.length co86) y341 := (by rw [hw,Ny341.out];exact HP87.1);clear HP87;have n0_ := Aside0.mk (hp_);have n1_ := Aside0.mk (blk_grown (g := gb332) (o := .cells #[.int .i64 t327,.int .i64 t328,.int .i64 t329,.int .i64 t330,.int .i64 t331] 34 (0,0)) q43_ hg (Kd.R_ne HO_15.out BK332.out (by decide)));have n2_ := Aside0.mk ((by rw [hw];exact below_set (HB.out) GB85.out : Below w.heap.size w w88));clear HO_15;clear BK332;clear HB;have HO_15 := n0_;have BK332 := n1_;have HB := n2_;clear n0_ n1_ n2_;clear hg hw hp_))
                        go_roundg k4
                        case measure=>have := HJ5.out;have := HJ15.out;have := HK3.out;have := HK4.out;omega
                        case rel=>exact ⟨(y341),(wrap64 (x24_4 + 1)),q10_,H',⟨by have := HJ5.out;have := HJ15.out;have := HK3.out;have := HK4.out;omega⟩,⟨q14_⟩,⟨q43_⟩,⟨q23_⟩⟩
                       ·rw [if_neg c84] at H
                        exact absurd H (by simp)
                      ·rw [if_neg c83] at H
                       have c83b0 : decide (x24_4 < (x15_4.length : Int)) = false := decide_eq_false c83
                       clear c83
                       replace H := Option.bind_eq_some_iff.mp H
                       obtain ⟨t342,A890,H⟩ := H
                       replace H : (some t342) = some r := H
                       have A89 := Aside0.mk A890
                       clear A890
                       obtain rfl := Option.some.inj H
                       obtain ⟨Ao90,co90,eo90⟩ := Kd.R_slice HO_15.out
                       subst eo90
                       go_wp2_with (first|((with_reducible refine gate_callee (f := 5) rfl ?_);refine goesL_ (some 155) rfl rfl Tryd.func5 q11_ rfl #[] rfl q1_ ?_;(with_reducible refine (batonlaw22_awake.calls k4  t342 _ A89.out).mono ?_);rintro e w91 ⟨rfl,hb⟩;refine ⟨_,rfl,?_⟩;have n0_ := Aside0.mk (Kd.R_below q14_ hb);have n1_ := Aside0.mk (blk_below (g := gb332) (o := .cells #[.int .i64 t327,.int .i64 t328,.int .i64 t329,.int .i64 t330,.int .i64 t331] 34 (0,0)) q43_ hb);have n2_ := Aside0.mk (below_step q23_ hb);clear HO_15;clear BK332;clear HB;have HO_15 := n0_;have BK332 := n1_;have HB := n2_;clear n0_ n1_ n2_;(try clear hb);(try clear hb2);(try clear hk);(try clear hi)))
                       go_ret
                       exact ⟨q9_,q23_⟩
                   ·rw [if_neg c71] at H
                    exact absurd H (by simp)
                  ·rw [if_neg c70] at H
                   exact absurd H (by simp)
                 ·rw [if_neg c69] at H
                  exact absurd H (by simp)
                ·rw [if_neg c68] at H
                 exact absurd H (by simp)
               ·rw [if_neg c67] at H
                exact absurd H (by simp)
              ·rw [if_neg c66] at H
               exact absurd H (by simp)
             ·rw [if_neg c65] at H
              exact absurd H (by simp)
            ·rw [if_neg c64] at H
             exact absurd H (by simp)
           ·rw [if_neg c63] at H
            exact absurd H (by simp)
          ·rw [if_neg c62] at H
           exact absurd H (by simp)

/-- THE ONE PURE STATEMENT of batonlaw22_SeriesPicks. -/
def batonlaw22_SeriesPicks.Pure : Prop := ∀ (l0 : List (S40)) (l1 : List (S40)) (a2 : Int) (a3 : Int) (l4 : List Int), l0.length ≤ maxLen → l0.length * 16 ≤ 140737488351232 → (∀ x ∈ l0, (Lit.int .i64 x.f0).wf = true ∧ (Lit.int .u64 x.f1).wf = true) → l1.length ≤ maxLen → l1.length * 16 ≤ 140737488351232 → (∀ x ∈ l1, (Lit.int .i64 x.f0).wf = true ∧ (Lit.int .u64 x.f1).wf = true) → (Lit.int .i64 a2).wf = true → (Lit.int .i64 a3).wf = true → l4.length ≤ maxLen → l4.length * 1 ≤ 140737488351232 → (∀ x ∈ l4, (Lit.int .u8 x).wf = true) → ∃ k, batonlaw22_SeriesPicks.f k l0 l1 a2 a3 l4 = some true

end Go.Proofs.YtbedpnklnamnhaaDoor.PF

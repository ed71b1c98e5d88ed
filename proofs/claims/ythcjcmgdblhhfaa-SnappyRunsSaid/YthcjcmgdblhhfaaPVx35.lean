/- The machine side of these statements: what each Go function computes as a plain function, and that its call computes just that. Written by a program of mine (wip/drive.py). No conditions. -/
import Derived.Test.YthcjcmgdblhhfaaPVx0
import Derived.Test.YthcjcmgdblhhfaaPVx13
import Derived.Test.YthcjcmgdblhhfaaPVx18
namespace Go.Proofs.Ythcjcmgdblhhfaa.PV
open Go.RowKit Go.Proofs.YthcjcmgdblhhfaaW.PrintWords Go.Proofs.YthcjcmgdblhhfaaW.PrintLast Go.Proofs.YthcjcmgdblhhfaaW.PrintMore
attribute [local go_sem] max2_int min2_int max_two min_two max_three min_three max_four min_four   -- for this text's walks alone
set_option linter.unusedVariables false
set_option linter.unusedSimpArgs false

/-! ### batonlaw03_SnappyRuns: function 7 -/
mutual
def batonlaw03_SnappyRuns.j0 : Nat → ByteArray → Int → Int → Bool → Option (Bool)
 | 0,_,_,_,_=>none
 | k + 1,x0,x1,x2,x16=>if x16 = true then ((batonlaw03_awake.f k).bind fun t451=>(some t451)) else ((snappy_Expand.f k (([(⟨false,x0,0,0⟩ : S35),(⟨true,(⟨#[]⟩ : ByteArray),x1,x2⟩ : S35)] : List (S35))) 65536).bind fun bt455=>(if x0.toList = ([] : List UInt8) then (batonlaw03_SnappyRuns.j1 k x0 x1 x2 bt455.1 bt455.2 true) else (if x1 < 1 then (batonlaw03_SnappyRuns.j1 k x0 x1 x2 bt455.1 bt455.2 true) else (if x1 > (x0.size : Int) then (batonlaw03_SnappyRuns.j1 k x0 x1 x2 bt455.1 bt455.2 true) else (if x2 < 1 then (batonlaw03_SnappyRuns.j1 k x0 x1 x2 bt455.1 bt455.2 true) else (batonlaw03_SnappyRuns.j1 k x0 x1 x2 bt455.1 bt455.2 (decide (x2 > 64))))))))
def batonlaw03_SnappyRuns.j1 : Nat → ByteArray → Int → Int → ByteArray → Int → Bool → Option (Bool)
 | 0,_,_,_,_,_,_=>none
 | k + 1,x0,x1,x2,x7,x8,x47=>if x47 = true then (if x8 = 4 then (some (x7.toList == ([] : List UInt8))) else (some false)) else (if x8 = 0 then (if (x7.size : Int) = (wrap64 ((x0.size : Int) + x2)) then (if 0 ≤ (x0.size : Int) then (if (x0.size : Int) ≤ (x7.size : Int) then (batonlaw03_SnappyRuns.j2 k x0 x1 x7 ((x7.extract 0 ((x0.size : Int) : Int).toNat).toList != x0.toList)) else (none)) else (none)) else (batonlaw03_SnappyRuns.j2 k x0 x1 x7 true)) else (batonlaw03_SnappyRuns.j2 k x0 x1 x7 true))
def batonlaw03_SnappyRuns.j2 : Nat → ByteArray → Int → ByteArray → Bool → Option (Bool)
 | 0,_,_,_,_=>none
 | k + 1,x0,x1,x7,x72=>if x72 = true then (some false) else (batonlaw03_SnappyRuns.l0 k x1 x7 (x0.size : Int))
def batonlaw03_SnappyRuns.l0 : Nat → Int → ByteArray → Int → Option (Bool)
 | 0,_,_,_=>none
 | k + 1,x1,x7,x9=>if x9 < (x7.size : Int) then (if 0 ≤ x9 then (if 0 ≤ (wrap64 (x9 - x1)) then (if (wrap64 (x9 - x1)) < (x7.size : Int) then (if (bt x7 x9) = (bt x7 (wrap64 (x9 - x1))) then (batonlaw03_SnappyRuns.l0 k x1 x7 (wrap64 (x9 + 1))) else (some false)) else (none)) else (none)) else (none)) else (some true)
end
def batonlaw03_SnappyRuns.f (k : Nat) (a0 : ByteArray) (a1 : Int) (a2 : Int) : Option (Bool) := if (a0.size : Int) > 2000 then (batonlaw03_SnappyRuns.j0 k a0 a1 a2 true) else ((batonlaw03_awake.f k).bind fun t450 => (batonlaw03_SnappyRuns.j0 k a0 a1 a2 (!t450)))
theorem batonlaw03_SnappyRuns.mono_l : ∀ k, (∀ y0 y1 y2 y3, LeO (batonlaw03_SnappyRuns.j0 k y0 y1 y2 y3) (batonlaw03_SnappyRuns.j0 (k + 1) y0 y1 y2 y3)) ∧ (∀ y0 y1 y2 y3 y4 y5, LeO (batonlaw03_SnappyRuns.j1 k y0 y1 y2 y3 y4 y5) (batonlaw03_SnappyRuns.j1 (k + 1) y0 y1 y2 y3 y4 y5)) ∧ (∀ y0 y1 y2 y3, LeO (batonlaw03_SnappyRuns.j2 k y0 y1 y2 y3) (batonlaw03_SnappyRuns.j2 (k + 1) y0 y1 y2 y3)) ∧ (∀ y0 y1 y2, LeO (batonlaw03_SnappyRuns.l0 k y0 y1 y2) (batonlaw03_SnappyRuns.l0 (k + 1) y0 y1 y2))
 | 0=>⟨fun _ _ _ _ r h=>by simp [batonlaw03_SnappyRuns.j0] at h,fun _ _ _ _ _ _ r h=>by simp [batonlaw03_SnappyRuns.j1] at h,fun _ _ _ _ r h=>by simp [batonlaw03_SnappyRuns.j2] at h,fun _ _ _ r h=>by simp [batonlaw03_SnappyRuns.l0] at h⟩
 | k + 1=>by
  obtain ⟨ih0,ih1,ih2,ih3⟩ := batonlaw03_SnappyRuns.mono_l k
  refine ⟨?_,?_,?_,?_⟩
  ·intro y0 y1 y2 y3
   unfold batonlaw03_SnappyRuns.j0
   repeat' first
   | (with_reducible exact ih0 _ _ _ _)
   | (with_reducible exact ih1 _ _ _ _ _ _)
   | (with_reducible exact ih2 _ _ _ _)
   | (with_reducible exact ih3 _ _ _)
   | (with_reducible exact batonlaw03_awake.mono _)
   | (with_reducible exact snappy_Expand.mono _ _ _)
   | (with_reducible exact LeO.refl _)
   | (with_reducible exact LeO.none _)
   | (with_reducible refine LeO.ite ?_ ?_)
   | (with_reducible refine LeO.bind ?_ (fun _=>?_))
   | exact ih0 _ _ _ _
   | exact ih1 _ _ _ _ _ _
   | exact ih2 _ _ _ _
   | exact ih3 _ _ _
   | exact batonlaw03_awake.mono _
   | exact snappy_Expand.mono _ _ _
   | exact LeO.none _
   | refine LeO.ite ?_ ?_
   | refine LeO.bind ?_ (fun _=>?_)
  ·intro y0 y1 y2 y3 y4 y5
   unfold batonlaw03_SnappyRuns.j1
   repeat' first
   | (with_reducible exact ih0 _ _ _ _)
   | (with_reducible exact ih1 _ _ _ _ _ _)
   | (with_reducible exact ih2 _ _ _ _)
   | (with_reducible exact ih3 _ _ _)
   | (with_reducible exact batonlaw03_awake.mono _)
   | (with_reducible exact snappy_Expand.mono _ _ _)
   | (with_reducible exact LeO.refl _)
   | (with_reducible exact LeO.none _)
   | (with_reducible refine LeO.ite ?_ ?_)
   | (with_reducible refine LeO.bind ?_ (fun _=>?_))
   | exact ih0 _ _ _ _
   | exact ih1 _ _ _ _ _ _
   | exact ih2 _ _ _ _
   | exact ih3 _ _ _
   | exact batonlaw03_awake.mono _
   | exact snappy_Expand.mono _ _ _
   | exact LeO.none _
   | refine LeO.ite ?_ ?_
   | refine LeO.bind ?_ (fun _=>?_)
  ·intro y0 y1 y2 y3
   unfold batonlaw03_SnappyRuns.j2
   repeat' first
   | (with_reducible exact ih0 _ _ _ _)
   | (with_reducible exact ih1 _ _ _ _ _ _)
   | (with_reducible exact ih2 _ _ _ _)
   | (with_reducible exact ih3 _ _ _)
   | (with_reducible exact batonlaw03_awake.mono _)
   | (with_reducible exact snappy_Expand.mono _ _ _)
   | (with_reducible exact LeO.refl _)
   | (with_reducible exact LeO.none _)
   | (with_reducible refine LeO.ite ?_ ?_)
   | (with_reducible refine LeO.bind ?_ (fun _=>?_))
   | exact ih0 _ _ _ _
   | exact ih1 _ _ _ _ _ _
   | exact ih2 _ _ _ _
   | exact ih3 _ _ _
   | exact batonlaw03_awake.mono _
   | exact snappy_Expand.mono _ _ _
   | exact LeO.none _
   | refine LeO.ite ?_ ?_
   | refine LeO.bind ?_ (fun _=>?_)
  ·intro y0 y1 y2
   unfold batonlaw03_SnappyRuns.l0
   repeat' first
   | (with_reducible exact ih0 _ _ _ _)
   | (with_reducible exact ih1 _ _ _ _ _ _)
   | (with_reducible exact ih2 _ _ _ _)
   | (with_reducible exact ih3 _ _ _)
   | (with_reducible exact batonlaw03_awake.mono _)
   | (with_reducible exact snappy_Expand.mono _ _ _)
   | (with_reducible exact LeO.refl _)
   | (with_reducible exact LeO.none _)
   | (with_reducible refine LeO.ite ?_ ?_)
   | (with_reducible refine LeO.bind ?_ (fun _=>?_))
   | exact ih0 _ _ _ _
   | exact ih1 _ _ _ _ _ _
   | exact ih2 _ _ _ _
   | exact ih3 _ _ _
   | exact batonlaw03_awake.mono _
   | exact snappy_Expand.mono _ _ _
   | exact LeO.none _
   | refine LeO.ite ?_ ?_
   | refine LeO.bind ?_ (fun _=>?_)
theorem batonlaw03_SnappyRuns.mono : ∀ a0 a1 a2 k, LeO (batonlaw03_SnappyRuns.f k a0 a1 a2) (batonlaw03_SnappyRuns.f (k + 1) a0 a1 a2) := by
 intro a0 a1 a2 k
 obtain ⟨ih0,ih1,ih2,ih3⟩ := batonlaw03_SnappyRuns.mono_l k
 unfold batonlaw03_SnappyRuns.f
 repeat' first
   | (with_reducible exact ih0 _ _ _ _)
   | (with_reducible exact ih1 _ _ _ _ _ _)
   | (with_reducible exact ih2 _ _ _ _)
   | (with_reducible exact ih3 _ _ _)
   | (with_reducible exact batonlaw03_awake.mono _)
   | (with_reducible exact snappy_Expand.mono _ _ _)
   | (with_reducible exact LeO.refl _)
   | (with_reducible exact LeO.none _)
   | (with_reducible refine LeO.ite ?_ ?_)
   | (with_reducible refine LeO.bind ?_ (fun _=>?_))
   | exact ih0 _ _ _ _
   | exact ih1 _ _ _ _ _ _
   | exact ih2 _ _ _ _
   | exact ih3 _ _ _
   | exact batonlaw03_awake.mono _
   | exact snappy_Expand.mono _ _ _
   | exact LeO.none _
   | refine LeO.ite ?_ ?_
   | refine LeO.bind ?_ (fun _=>?_)
set_option maxHeartbeats 8000000 in
set_option maxRecDepth 100000 in
theorem batonlaw03_SnappyRuns.calls (k : Nat) (a0 : ByteArray) (a1 : Int) (a2 : Int) (r : Bool) (w : World) (h : batonlaw03_SnappyRuns.f k a0 a1 a2 = some r) :
  Calls Try.prog 7 #[.string a0,.int .i64 a1,.int .i64 a2] w fun e w'=>e = .returned (.bool r) ∧ Below w.heap.size w w' := by
 have hu35 := Try.underlying35
 have HB := Aside0.mk (Below.refl w.heap.size w)
 have H : (if (a0.size : Int) > 2000 then (batonlaw03_SnappyRuns.j0 k a0 a1 a2 true) else ((batonlaw03_awake.f k).bind fun t450=>(batonlaw03_SnappyRuns.j0 k a0 a1 a2 (!t450)))) = some r := h
 clear h
 have HC4 := Aside0.mk H
 clear H
 go_enter Try.func7,Try.ntmps7
 go_upto_region 1 with (fail)
 repeat (go_quiet (fail);go_upto_region 1 with (fail))
 go_cut [16] (fun v16 wc=>∃ (kq : Nat) (x16_3 : Bool),v16 = .bool x16_3 ∧ Aside0 (batonlaw03_SnappyRuns.j0 kq a0 a1 a2 x16_3 = some r) ∧ Aside0 (kq ≤ k) ∧ Aside0 (Below w.heap.size w wc))
 case first =>
  have H := HC4.out
  clear HC4
  by_cases c5 : (a0.size : Int) > 2000
  ·rw [if_pos c5] at H
   have c5b0 : decide (2000 < (a0.size : Int)) = true := decide_eq_true c5
   have c5b1 : decide (2000 < a0.size) = true := decide_eq_true q75_
   clear c5
   (first|rw [c5b0]|(simp only [i64_w,i32_w];rw [c5b0])|skip)
   have H' := Aside0.mk H
   clear H
   go_wp2
   repeat (go_quiet (fail);try go_wp2)
   go_meet
   case rel=>exact ⟨_,(true),q4_,H',⟨q50_⟩,⟨bl_⟩⟩
  ·rw [if_neg c5] at H
   have c5b0 : decide (2000 < (a0.size : Int)) = false := decide_eq_false c5
   have c5b1 : decide (2000 < a0.size) = false := decide_eq_false q75_
   clear c5
   (first|rw [c5b0]|(simp only [i64_w,i32_w];rw [c5b0])|skip)
   replace H := Option.bind_eq_some_iff.mp H
   obtain ⟨t450,A60,H⟩ := H
   replace H : (batonlaw03_SnappyRuns.j0 k a0 a1 a2 (!t450)) = some r := H
   have A6 := Aside0.mk A60
   clear A60
   have H' := Aside0.mk H
   clear H
   go_wp2_with (first|(go_at_call 12;(with_reducible refine (batonlaw03_awake.calls k  t450 _ A6.out).mono ?_);rintro e w7 ⟨rfl,hb⟩;have n0_ := Aside0.mk (below_step (bl_) hb);clear HB;have HB := n0_;clear n0_;(try clear hb);(try clear hb2);(try clear hk);(try clear hi)))
   repeat (go_quiet (first|(go_at_call 12;(with_reducible refine (batonlaw03_awake.calls k  t450 _ A6.out).mono ?_);rintro e w7 ⟨rfl,hb⟩;have n0_ := Aside0.mk (below_step (bl_) hb);clear HB;have HB := n0_;clear n0_;(try clear hb);(try clear hb2);(try clear hk);(try clear hi)));try go_wp2_with (first|(go_at_call 12;(with_reducible refine (batonlaw03_awake.calls k  t450 _ A6.out).mono ?_);rintro e w7 ⟨rfl,hb⟩;have n0_ := Aside0.mk (below_step (bl_) hb);clear HB;have HB := n0_;clear n0_;(try clear hb);(try clear hb2);(try clear hk);(try clear hi))))
   go_meet
   case rel=>exact ⟨_,(!t450),q4_,H',⟨q50_⟩,⟨bl_⟩⟩
 case rest =>
  clear HC4
  try clear p2
  try clear c5
  try clear c5b0
  try clear c5b1
  try clear c7
  obtain ⟨kq,x16_3,rfl,HA,HJ3,HB⟩ := hcut
  cases kq with
  | zero=>exact absurd HA.out (by simp [batonlaw03_SnappyRuns.j0])
  | succ kj3 =>
   have H := HA.out
   clear HA
   simp only [batonlaw03_SnappyRuns.j0] at H
   by_cases c8 : x16_3 = true
   ·subst c8
    have H1 : ((batonlaw03_awake.f kj3).bind fun t451=>(some t451)) = some r := by rw [if_pos rfl] at H;exact H
    clear H
    have H := H1
    clear H1
    replace H := Option.bind_eq_some_iff.mp H
    obtain ⟨t451,A90,H⟩ := H
    replace H : (some t451) = some r := H
    have A9 := Aside0.mk A90
    clear A90
    obtain rfl := Option.some.inj H
    go_wp2_with (first|(go_at_call 12;(with_reducible refine (batonlaw03_awake.calls kj3  t451 _ A9.out).mono ?_);rintro e w10 ⟨rfl,hb⟩;have n0_ := Aside0.mk (below_step (bl_) hb);clear HB;have HB := n0_;clear n0_;(try clear hb);(try clear hb2);(try clear hk);(try clear hi)))
    repeat (go_quiet (first|(go_at_call 12;(with_reducible refine (batonlaw03_awake.calls kj3  t451 _ A9.out).mono ?_);rintro e w10 ⟨rfl,hb⟩;have n0_ := Aside0.mk (below_step (bl_) hb);clear HB;have HB := n0_;clear n0_;(try clear hb);(try clear hb2);(try clear hk);(try clear hi)));try go_wp2_with (first|(go_at_call 12;(with_reducible refine (batonlaw03_awake.calls kj3  t451 _ A9.out).mono ?_);rintro e w10 ⟨rfl,hb⟩;have n0_ := Aside0.mk (below_step (bl_) hb);clear HB;have HB := n0_;clear n0_;(try clear hb);(try clear hb2);(try clear hk);(try clear hi))))
    go_ret
    exact ⟨q1_,bl_⟩
   ·replace c8 := Bool.eq_false_iff.mpr c8
    subst c8
    have H1 : ((snappy_Expand.f kj3 (([(⟨false,a0,0,0⟩ : S35),(⟨true,(⟨#[]⟩ : ByteArray),a1,a2⟩ : S35)] : List (S35))) 65536).bind fun bt455=>(if a0.toList = ([] : List UInt8) then (batonlaw03_SnappyRuns.j1 kj3 a0 a1 a2 bt455.1 bt455.2 true) else (if a1 < 1 then (batonlaw03_SnappyRuns.j1 kj3 a0 a1 a2 bt455.1 bt455.2 true) else (if a1 > (a0.size : Int) then (batonlaw03_SnappyRuns.j1 kj3 a0 a1 a2 bt455.1 bt455.2 true) else (if a2 < 1 then (batonlaw03_SnappyRuns.j1 kj3 a0 a1 a2 bt455.1 bt455.2 true) else (batonlaw03_SnappyRuns.j1 kj3 a0 a1 a2 bt455.1 bt455.2 (decide (a2 > 64)))))))) = some r := by rw [if_neg (show ¬ (false = true) by decide)] at H;exact H
    clear H
    have H := H1
    clear H1
    obtain ⟨y452,hy452⟩ : ∃ y_ : List (S35),y_ = (([(⟨false,a0,0,0⟩ : S35),(⟨true,(⟨#[]⟩ : ByteArray),a1,a2⟩ : S35)] : List (S35))) := ⟨_,rfl⟩
    replace H : ((snappy_Expand.f kj3 y452 65536).bind fun bt455=>(if a0.toList = ([] : List UInt8) then (batonlaw03_SnappyRuns.j1 kj3 a0 a1 a2 bt455.1 bt455.2 true) else (if a1 < 1 then (batonlaw03_SnappyRuns.j1 kj3 a0 a1 a2 bt455.1 bt455.2 true) else (if a1 > (a0.size : Int) then (batonlaw03_SnappyRuns.j1 kj3 a0 a1 a2 bt455.1 bt455.2 true) else (if a2 < 1 then (batonlaw03_SnappyRuns.j1 kj3 a0 a1 a2 bt455.1 bt455.2 true) else (batonlaw03_SnappyRuns.j1 kj3 a0 a1 a2 bt455.1 bt455.2 (decide (a2 > 64)))))))) = some r := by first|(rw [hy452];with_reducible exact H)|(have H2_ := (Option.bind_some _ _).symm.trans H;rw [hy452];with_reducible exact H2_)|(have H2_ := (Option.bind_some _ _).symm.trans H;with_reducible exact H2_)|with_reducible exact H|(rw [hy452];exact H)|exact H
    have Ny452 := Aside0.mk hy452
    clear hy452
    replace H := Option.bind_eq_some_iff.mp H
    obtain ⟨⟨t455,t456⟩,A110,H⟩ := H
    replace H : (if a0.toList = ([] : List UInt8) then (batonlaw03_SnappyRuns.j1 kj3 a0 a1 a2 t455 t456 true) else (if a1 < 1 then (batonlaw03_SnappyRuns.j1 kj3 a0 a1 a2 t455 t456 true) else (if a1 > (a0.size : Int) then (batonlaw03_SnappyRuns.j1 kj3 a0 a1 a2 t455 t456 true) else (if a2 < 1 then (batonlaw03_SnappyRuns.j1 kj3 a0 a1 a2 t455 t456 true) else (batonlaw03_SnappyRuns.j1 kj3 a0 a1 a2 t455 t456 (decide (a2 > 64))))))) = some r := H
    have A11 := Aside0.mk A110
    clear A110
    have HC12 := Aside0.mk H
    clear H
    go_upto_region 4 with (first|((with_reducible refine gate_dst (N := 24) rfl ?_);(try (refine gate_guard (by rfl) ?_;dsimp only));refine Kd.R_lit k35 _ 35 ?hg (N := 24) ?hd (xs := ([(⟨false,a0,0,0⟩ : S35),(⟨true,(⟨#[]⟩ : ByteArray),a1,a2⟩ : S35)] : List (S35))) (inner := [.bool false,.string a0,.int .i64 0,.int .i64 0,.bool true,.string (⟨#[]⟩ : ByteArray),.int .i64 a1,.int .i64 a2]) (ok := fun _=>True) (okp := fun _=>True) ?hr ?hp (fun _ hk=>hk) trivial (Below.refl _ _) (Nat.le_refl _) (by simp) ?_;(case hd=>rfl);(case hg=>rfl);(case hr=>first|(go_simp;done)|(go_simp;rfl)|(go_simp;simp [my_u8w];done));(case hp=>exact (Reps.c4 (show Kd.M k35 _ _ _ (⟨false,a0,0,0⟩ : S35) [.bool false,.string a0,.int .i64 0,.int .i64 0] from (k35_mkM _ _ _ (⟨false,a0,0,0⟩ : S35) )) (Reps.c4 (show Kd.M k35 _ _ _ (⟨true,(⟨#[]⟩ : ByteArray),a1,a2⟩ : S35) [.bool true,.string (⟨#[]⟩ : ByteArray),.int .i64 a1,.int .i64 a2] from (k35_mkM _ _ _ (⟨true,(⟨#[]⟩ : ByteArray),a1,a2⟩ : S35) )) (Reps.none _ _))));intro v453 w13 ho14 hb hg_ hnew_;clear hg_ hnew_;(first|rw [← Ny452.out] at ho14|(simp only [Int.reduceToNat] at ho14;rw [← Ny452.out] at ho14));have n0_ := Aside0.mk (Kd.R_lower ho14 (below_size (bl_)));have n1_ := Aside0.mk (below_step (bl_) hb);clear HB;have HO454 := n0_;have HB := n1_;clear n0_ n1_;clear hb ho14;obtain ⟨Ao15,co15,eo15⟩ := Kd.R_slice HO454.out;subst eo15)|(go_at_call 17;(with_reducible refine (snappy_Expand.calls kj3 _ _ y452 65536 t455 t456 _ ?side1 ?side2 A11.out).mono ?_);(case side1=>repeat (first|exact (Kd.R_reads' HO454.out).2.2|(with_reducible refine Kd.C_alloc ?_ _)|(with_reducible refine Kd.C_drewN ?_ _)|(with_reducible refine Kd.C_drew ?_)));(case side2=>exact (Kd.R_reads' HO454.out).2.1);rintro e w16 ⟨rfl,hb⟩;have n0_ := Aside0.mk (Kd.R_below q103_ hb);have n1_ := Aside0.mk (below_step (bl_) hb);clear HO454;clear HB;have HO454 := n0_;have HB := n1_;clear n0_ n1_;(try clear hb);(try clear hb2);(try clear hk);(try clear hi)))
    repeat (go_quiet (first|((with_reducible refine gate_dst (N := 24) rfl ?_);(try (refine gate_guard (by rfl) ?_;dsimp only));refine Kd.R_lit k35 _ 35 ?hg (N := 24) ?hd (xs := ([(⟨false,a0,0,0⟩ : S35),(⟨true,(⟨#[]⟩ : ByteArray),a1,a2⟩ : S35)] : List (S35))) (inner := [.bool false,.string a0,.int .i64 0,.int .i64 0,.bool true,.string (⟨#[]⟩ : ByteArray),.int .i64 a1,.int .i64 a2]) (ok := fun _=>True) (okp := fun _=>True) ?hr ?hp (fun _ hk=>hk) trivial (Below.refl _ _) (Nat.le_refl _) (by simp) ?_;(case hd=>rfl);(case hg=>rfl);(case hr=>first|(go_simp;done)|(go_simp;rfl)|(go_simp;simp [my_u8w];done));(case hp=>exact (Reps.c4 (show Kd.M k35 _ _ _ (⟨false,a0,0,0⟩ : S35) [.bool false,.string a0,.int .i64 0,.int .i64 0] from (k35_mkM _ _ _ (⟨false,a0,0,0⟩ : S35) )) (Reps.c4 (show Kd.M k35 _ _ _ (⟨true,(⟨#[]⟩ : ByteArray),a1,a2⟩ : S35) [.bool true,.string (⟨#[]⟩ : ByteArray),.int .i64 a1,.int .i64 a2] from (k35_mkM _ _ _ (⟨true,(⟨#[]⟩ : ByteArray),a1,a2⟩ : S35) )) (Reps.none _ _))));intro v453 w13 ho14 hb hg_ hnew_;clear hg_ hnew_;(first|rw [← Ny452.out] at ho14|(simp only [Int.reduceToNat] at ho14;rw [← Ny452.out] at ho14));have n0_ := Aside0.mk (Kd.R_lower ho14 (below_size (bl_)));have n1_ := Aside0.mk (below_step (bl_) hb);clear HB;have HO454 := n0_;have HB := n1_;clear n0_ n1_;clear hb ho14;obtain ⟨Ao15,co15,eo15⟩ := Kd.R_slice HO454.out;subst eo15)|(go_at_call 17;(with_reducible refine (snappy_Expand.calls kj3 _ _ y452 65536 t455 t456 _ ?side1 ?side2 A11.out).mono ?_);(case side1=>repeat (first|exact (Kd.R_reads' HO454.out).2.2|(with_reducible refine Kd.C_alloc ?_ _)|(with_reducible refine Kd.C_drewN ?_ _)|(with_reducible refine Kd.C_drew ?_)));(case side2=>exact (Kd.R_reads' HO454.out).2.1);rintro e w16 ⟨rfl,hb⟩;have n0_ := Aside0.mk (Kd.R_below q103_ hb);have n1_ := Aside0.mk (below_step (bl_) hb);clear HO454;clear HB;have HO454 := n0_;have HB := n1_;clear n0_ n1_;(try clear hb);(try clear hb2);(try clear hk);(try clear hi)));go_upto_region 4 with (first|((with_reducible refine gate_dst (N := 24) rfl ?_);(try (refine gate_guard (by rfl) ?_;dsimp only));refine Kd.R_lit k35 _ 35 ?hg (N := 24) ?hd (xs := ([(⟨false,a0,0,0⟩ : S35),(⟨true,(⟨#[]⟩ : ByteArray),a1,a2⟩ : S35)] : List (S35))) (inner := [.bool false,.string a0,.int .i64 0,.int .i64 0,.bool true,.string (⟨#[]⟩ : ByteArray),.int .i64 a1,.int .i64 a2]) (ok := fun _=>True) (okp := fun _=>True) ?hr ?hp (fun _ hk=>hk) trivial (Below.refl _ _) (Nat.le_refl _) (by simp) ?_;(case hd=>rfl);(case hg=>rfl);(case hr=>first|(go_simp;done)|(go_simp;rfl)|(go_simp;simp [my_u8w];done));(case hp=>exact (Reps.c4 (show Kd.M k35 _ _ _ (⟨false,a0,0,0⟩ : S35) [.bool false,.string a0,.int .i64 0,.int .i64 0] from (k35_mkM _ _ _ (⟨false,a0,0,0⟩ : S35) )) (Reps.c4 (show Kd.M k35 _ _ _ (⟨true,(⟨#[]⟩ : ByteArray),a1,a2⟩ : S35) [.bool true,.string (⟨#[]⟩ : ByteArray),.int .i64 a1,.int .i64 a2] from (k35_mkM _ _ _ (⟨true,(⟨#[]⟩ : ByteArray),a1,a2⟩ : S35) )) (Reps.none _ _))));intro v453 w13 ho14 hb hg_ hnew_;clear hg_ hnew_;(first|rw [← Ny452.out] at ho14|(simp only [Int.reduceToNat] at ho14;rw [← Ny452.out] at ho14));have n0_ := Aside0.mk (Kd.R_lower ho14 (below_size (bl_)));have n1_ := Aside0.mk (below_step (bl_) hb);clear HB;have HO454 := n0_;have HB := n1_;clear n0_ n1_;clear hb ho14;obtain ⟨Ao15,co15,eo15⟩ := Kd.R_slice HO454.out;subst eo15)|(go_at_call 17;(with_reducible refine (snappy_Expand.calls kj3 _ _ y452 65536 t455 t456 _ ?side1 ?side2 A11.out).mono ?_);(case side1=>repeat (first|exact (Kd.R_reads' HO454.out).2.2|(with_reducible refine Kd.C_alloc ?_ _)|(with_reducible refine Kd.C_drewN ?_ _)|(with_reducible refine Kd.C_drew ?_)));(case side2=>exact (Kd.R_reads' HO454.out).2.1);rintro e w16 ⟨rfl,hb⟩;have n0_ := Aside0.mk (Kd.R_below q103_ hb);have n1_ := Aside0.mk (below_step (bl_) hb);clear HO454;clear HB;have HO454 := n0_;have HB := n1_;clear n0_ n1_;(try clear hb);(try clear hb2);(try clear hk);(try clear hi))))
    (try simp only [Act.put,List.setIfInBounds_toArray,List.set_cons_zero,List.set_cons_succ])
    go_cut [47] (fun v47 wc=>∃ (kq : Nat) (x47_11 : Bool),v47 = .bool x47_11 ∧ Aside0 (batonlaw03_SnappyRuns.j1 kq a0 a1 a2 t455 t456 x47_11 = some r) ∧ Aside0 (kq ≤ kj3) ∧ Aside0 (Below w.heap.size w wc))
    case first =>
     have H := HC12.out
     clear HC12
     by_cases c17 : a0.toList = ([] : List UInt8)
     ·rw [if_pos c17] at H
      have c17b0 : (a0.toList == ([] : List UInt8)) = true := beq_iff_eq.mpr c17
      have c17b1 : (a0.toList != ([] : List UInt8)) = false := bne_eq_false_iff_eq.mpr c17
      clear c17
      (first|rw [c17b0]|(simp only [i64_w,i32_w];rw [c17b0])|skip)
      have H' := Aside0.mk H
      clear H
      go_wp2
      repeat (go_quiet (fail);try go_wp2)
      go_meet
      case rel=>exact ⟨_,(true),q4_,H',⟨q93_⟩,⟨bl_⟩⟩
     ·rw [if_neg c17] at H
      have c17b0 : (a0.toList == ([] : List UInt8)) = false := beq_eq_false_iff_ne.mpr c17
      have c17b1 : (a0.toList != ([] : List UInt8)) = true := bne_iff_ne.mpr c17
      (first|rw [c17b0]|(simp only [i64_w,i32_w];rw [c17b0])|skip)
      by_cases c18 : a1 < 1
      ·rw [if_pos c18] at H
       have c18b0 : decide (a1 < 1) = true := decide_eq_true c18
       clear c18
       have H' := Aside0.mk H
       clear H
       go_wp2
       repeat (go_quiet (fail);try go_wp2)
       go_meet
       case rel=>exact ⟨_,(true),q4_,H',⟨q93_⟩,⟨bl_⟩⟩
      ·rw [if_neg c18] at H
       have c18b0 : decide (a1 < 1) = false := decide_eq_false c18
       clear c18
       by_cases c19 : a1 > (a0.size : Int)
       ·rw [if_pos c19] at H
        have c19b0 : decide ((a0.size : Int) < a1) = true := decide_eq_true c19
        clear c19
        have H' := Aside0.mk H
        clear H
        go_wp2
        repeat (go_quiet (fail);try go_wp2)
        go_meet
        case rel=>exact ⟨_,(true),q4_,H',⟨q93_⟩,⟨bl_⟩⟩
       ·rw [if_neg c19] at H
        have c19b0 : decide ((a0.size : Int) < a1) = false := decide_eq_false c19
        clear c19
        by_cases c20 : a2 < 1
        ·rw [if_pos c20] at H
         have c20b0 : decide (a2 < 1) = true := decide_eq_true c20
         clear c20
         have H' := Aside0.mk H
         clear H
         go_wp2
         repeat (go_quiet (fail);try go_wp2)
         go_meet
         case rel=>exact ⟨_,(true),q4_,H',⟨q93_⟩,⟨bl_⟩⟩
        ·rw [if_neg c20] at H
         have c20b0 : decide (a2 < 1) = false := decide_eq_false c20
         clear c20
         have H' := Aside0.mk H
         clear H
         go_wp2
         repeat (go_quiet (fail);try go_wp2)
         go_meet
         case rel=>exact ⟨_,(decide (a2 > 64)),q4_,H',⟨q93_⟩,⟨bl_⟩⟩
    case rest =>
     clear HC12
     try clear c1
     try clear c2
     try clear p2
     try clear c4
     try clear c5
     try clear c5b0
     try clear c5b1
     try clear c7
     try clear c8
     try clear c17
     try clear c17b0
     try clear c17b1
     try clear c18
     try clear c18b0
     try clear c19
     try clear c19b0
     try clear c20
     try clear c20b0
     try clear p2
     obtain ⟨kq,x47_11,rfl,HA,HJ11,HB⟩ := hcut
     cases kq with
     | zero=>exact absurd HA.out (by simp [batonlaw03_SnappyRuns.j1])
     | succ kj11 =>
      have H := HA.out
      clear HA
      simp only [batonlaw03_SnappyRuns.j1] at H
      by_cases c21 : x47_11 = true
      ·subst c21
       have H1 : (if t456 = 4 then (some (t455.toList == ([] : List UInt8))) else (some false)) = some r := by rw [if_pos rfl] at H;exact H
       clear H
       have H := H1
       clear H1
       by_cases c22 : t456 = 4
       ·rw [if_pos c22] at H
        have c22b0 : (t456 == 4) = true := beq_iff_eq.mpr c22
        have c22b1 : (t456 != 4) = false := bne_eq_false_iff_eq.mpr c22
        clear c22
        obtain rfl := Option.some.inj H
        go_wp2
        repeat (go_quiet (fail);try go_wp2)
        go_ret
        exact ⟨q1_,bl_⟩
       ·rw [if_neg c22] at H
        have c22b0 : (t456 == 4) = false := beq_eq_false_iff_ne.mpr c22
        have c22b1 : (t456 != 4) = true := bne_iff_ne.mpr c22
        obtain rfl := Option.some.inj H
        go_wp2
        repeat (go_quiet (fail);try go_wp2)
        go_ret
        exact ⟨q1_,bl_⟩
      ·replace c21 := Bool.eq_false_iff.mpr c21
       subst c21
       have H1 : (if t456 = 0 then (if (t455.size : Int) = (wrap64 ((a0.size : Int) + a2)) then (if 0 ≤ (a0.size : Int) then (if (a0.size : Int) ≤ (t455.size : Int) then (batonlaw03_SnappyRuns.j2 kj11 a0 a1 t455 ((t455.extract 0 ((a0.size : Int) : Int).toNat).toList != a0.toList)) else (none)) else (none)) else (batonlaw03_SnappyRuns.j2 kj11 a0 a1 t455 true)) else (batonlaw03_SnappyRuns.j2 kj11 a0 a1 t455 true)) = some r := by rw [if_neg (show ¬ (false = true) by decide)] at H;exact H
       clear H
       have H := H1
       clear H1
       have HC23 := Aside0.mk H
       clear H
       go_upto_region 6 with (fail)
       repeat (go_quiet (fail);go_upto_region 6 with (fail))
       go_cut [72] (fun v72 wc=>∃ (kq : Nat) (x72_22 : Bool),v72 = .bool x72_22 ∧ Aside0 (batonlaw03_SnappyRuns.j2 kq a0 a1 t455 x72_22 = some r) ∧ Aside0 (kq ≤ kj11) ∧ Aside0 (Below w.heap.size w wc))
       case first =>
        have H := HC23.out
        clear HC23
        by_cases c24 : t456 = 0
        ·rw [if_pos c24] at H
         have c24b0 : (t456 == 0) = true := beq_iff_eq.mpr c24
         have c24b1 : (t456 != 0) = false := bne_eq_false_iff_eq.mpr c24
         clear c24
         (first|rw [c24b0]|(simp only [i64_w,i32_w];rw [c24b0])|skip)
         by_cases c25 : (t455.size : Int) = (wrap64 ((a0.size : Int) + a2))
         ·rw [if_pos c25] at H
          have c25b0 : ((t455.size : Int) == (wrap64 ((a0.size : Int) + a2))) = true := beq_iff_eq.mpr c25
          have c25b1 : ((t455.size : Int) != (wrap64 ((a0.size : Int) + a2))) = false := bne_eq_false_iff_eq.mpr c25
          clear c25
          by_cases c26 : 0 ≤ (a0.size : Int)
          ·rw [if_pos c26] at H
           have c26b0 := eq_true c26
           have c26b1 : decide (0 ≤ (a0.size : Int)) = true := decide_eq_true c26
           clear c26
           by_cases c27 : (a0.size : Int) ≤ (t455.size : Int)
           ·rw [if_pos c27] at H
            have c27b0 := eq_true c27
            have c27b1 : decide ((a0.size : Int) ≤ (t455.size : Int)) = true := decide_eq_true c27
            clear c27
            have H' := Aside0.mk H
            clear H
            go_wp2
            repeat (go_quiet (fail);try go_wp2)
            go_meet
            case rel=>exact ⟨_,(((t455.extract 0 ((a0.size : Int) : Int).toNat).toList != a0.toList)),q4_,H',⟨q112_⟩,⟨bl_⟩⟩
           ·rw [if_neg c27] at H
            exact absurd H (by simp)
          ·rw [if_neg c26] at H
           exact absurd H (by simp)
         ·rw [if_neg c25] at H
          have c25b0 : ((t455.size : Int) == (wrap64 ((a0.size : Int) + a2))) = false := beq_eq_false_iff_ne.mpr c25
          have c25b1 : ((t455.size : Int) != (wrap64 ((a0.size : Int) + a2))) = true := bne_iff_ne.mpr c25
          have H' := Aside0.mk H
          clear H
          go_wp2
          repeat (go_quiet (fail);try go_wp2)
          go_meet
          case rel=>exact ⟨_,(true),q4_,H',⟨q112_⟩,⟨bl_⟩⟩
        ·rw [if_neg c24] at H
         have c24b0 : (t456 == 0) = false := beq_eq_false_iff_ne.mpr c24
         have c24b1 : (t456 != 0) = true := bne_iff_ne.mpr c24
         (first|rw [c24b0]|(simp only [i64_w,i32_w];rw [c24b0])|skip)
         have H' := Aside0.mk H
         clear H
         go_wp2
         repeat (go_quiet (fail);try go_wp2)
         go_meet
         case rel=>exact ⟨_,(true),q4_,H',⟨q112_⟩,⟨bl_⟩⟩
       case rest =>
        clear HC23
        try clear c1
        try clear c2
        try clear p2
        try clear c4
        try clear c5
        try clear c5b0
        try clear c5b1
        try clear p6
        try clear c7
        try clear c8
        try clear c17
        try clear c17b0
        try clear c17b1
        try clear c18
        try clear c18b0
        try clear c19
        try clear c19b0
        try clear c20
        try clear c20b0
        try clear c21
        try clear c22
        try clear c22b0
        try clear c22b1
        try clear c24
        try clear c24b0
        try clear c24b1
        try clear c25
        try clear c25b0
        try clear c25b1
        try clear c26
        try clear c26b0
        try clear c26b1
        try clear c27
        try clear c27b0
        try clear c27b1
        try clear p2
        obtain ⟨kq,x72_22,rfl,HA,HJ22,HB⟩ := hcut
        cases kq with
        | zero=>exact absurd HA.out (by simp [batonlaw03_SnappyRuns.j2])
        | succ kj22 =>
         have H := HA.out
         clear HA
         simp only [batonlaw03_SnappyRuns.j2] at H
         by_cases c28 : x72_22 = true
         ·subst c28
          have H1 : (some false) = some r := by rw [if_pos rfl] at H;exact H
          clear H
          have H := H1
          clear H1
          obtain rfl := Option.some.inj H
          go_wp2
          repeat (go_quiet (fail);try go_wp2)
          go_ret
          exact ⟨q1_,bl_⟩
         ·replace c28 := Bool.eq_false_iff.mpr c28
          subst c28
          have H1 : (batonlaw03_SnappyRuns.l0 kj22 a1 t455 (a0.size : Int)) = some r := by rw [if_neg (show ¬ (false = true) by decide)] at H;exact H
          clear H
          have H := H1
          clear H1
          have H' := Aside0.mk H
          clear H
          go_wp2
          repeat (go_quiet (fail);try go_wp2)
          go_loopg [9] kj22 (fun kq v9 w'=>∃ (x9_4 : Int),v9 = .int .i64 x9_4 ∧ Aside0 (batonlaw03_SnappyRuns.l0 kq a1 t455 x9_4 = some r) ∧ Aside0 (kq ≤ kj22) ∧ Aside0 (Below w.heap.size w w'))
          case atStart=>exact ⟨((a0.size : Int)),q4_,H',⟨Nat.le_refl _⟩,⟨bl_⟩⟩
          case round =>
           clear H'
           try clear c1
           try clear c2
           try clear p2
           try clear c4
           try clear c5
           try clear c5b0
           try clear c5b1
           try clear p6
           try clear c7
           try clear c8
           try clear c17
           try clear c17b0
           try clear c17b1
           try clear c18
           try clear c18b0
           try clear c19
           try clear c19b0
           try clear c20
           try clear c20b0
           try clear c21
           try clear c22
           try clear c22b0
           try clear c22b1
           try clear c24
           try clear c24b0
           try clear c24b1
           try clear c25
           try clear c25b0
           try clear c25b1
           try clear c26
           try clear c26b0
           try clear c26b1
           try clear c27
           try clear c27b0
           try clear c27b1
           try clear c28
           try clear p2
           try clear p6
           obtain ⟨x9_4,rfl,HA,HK4,HB⟩ := hrel
           cases gk with
           | zero=>exact absurd HA.out (by simp [batonlaw03_SnappyRuns.l0])
           | succ k4 =>
            have H := HA.out
            clear HA
            simp only [batonlaw03_SnappyRuns.l0] at H
            by_cases c29 : x9_4 < (t455.size : Int)
            ·rw [if_pos c29] at H
             have c29b0 : decide (x9_4 < (t455.size : Int)) = true := decide_eq_true c29
             clear c29
             by_cases c30 : 0 ≤ x9_4
             ·rw [if_pos c30] at H
              have c30b0 : decide (0 ≤ x9_4) = true := decide_eq_true c30
              clear c30
              obtain ⟨ji32,hji32⟩ : ∃ j_ : Int,(wrap64 (x9_4 - a1)) = j_ := ⟨_,rfl⟩
              replace H : (if 0 ≤ (ji32) then (if (ji32) < (t455.size : Int) then (if (bt t455 x9_4) = (bt t455 (ji32)) then (batonlaw03_SnappyRuns.l0 k4 a1 t455 (wrap64 (x9_4 + 1))) else (some false)) else (none)) else (none)) = some r := by first|(rw [hji32] at H;exact H)|(simp only [hji32] at H ⊢;exact H)
              have hji32w : (IntKind.i64.wrap (x9_4 - a1)) = ji32 := (i64_w _).trans hji32
              by_cases c33 : 0 ≤ (ji32)
              ·rw [if_pos c33] at H
               have c33b0 : decide (0 ≤ (ji32)) = true := decide_eq_true c33
               clear c33
               by_cases c34 : (ji32) < (t455.size : Int)
               ·rw [if_pos c34] at H
                have c34b0 : decide ((ji32) < (t455.size : Int)) = true := decide_eq_true c34
                clear c34
                by_cases c36 : (bt t455 x9_4) = (bt t455 (ji32))
                ·rw [if_pos c36] at H
                 have c36b0 : ((bt t455 x9_4) == (bt t455 (ji32))) = true := beq_iff_eq.mpr c36
                 have c36b1 : ((bt t455 x9_4) != (bt t455 (ji32))) = false := bne_eq_false_iff_eq.mpr c36
                 clear c36
                 have H' := Aside0.mk H
                 clear H
                 have p31 : 0 ≤ (x9_4 : Int) := of_decide_eq_true q3_
                 have q31 : x9_4 < (t455.size : Int) := of_decide_eq_true q3_
                 have hx31 := bt_at t455 x9_4
                 replace p31 := eq_true p31
                 replace q31 := eq_true q31
                 have p35 : 0 ≤ ((ji32) : Int) := of_decide_eq_true q3_
                 have q35 : (ji32) < (t455.size : Int) := of_decide_eq_true q3_
                 have hx35 := bt_at t455 (ji32)
                 replace p35 := eq_true p35
                 replace q35 := eq_true q35
                 go_wp2
                 repeat (go_quiet (fail);try go_wp2)
                 go_roundg k4
                 case measure=>have := HJ3.out;have := HJ11.out;have := HJ22.out;have := HK4.out;omega
                 case rel=>exact ⟨(wrap64 (x9_4 + 1)),q4_,H',⟨by have := HJ3.out;have := HJ11.out;have := HJ22.out;have := HK4.out;omega⟩,⟨bl_⟩⟩
                ·rw [if_neg c36] at H
                 have c36b0 : ((bt t455 x9_4) == (bt t455 (ji32))) = false := beq_eq_false_iff_ne.mpr c36
                 have c36b1 : ((bt t455 x9_4) != (bt t455 (ji32))) = true := bne_iff_ne.mpr c36
                 obtain rfl := Option.some.inj H
                 have p31 : 0 ≤ (x9_4 : Int) := of_decide_eq_true q3_
                 have q31 : x9_4 < (t455.size : Int) := of_decide_eq_true q3_
                 have hx31 := bt_at t455 x9_4
                 replace p31 := eq_true p31
                 replace q31 := eq_true q31
                 have p35 : 0 ≤ ((ji32) : Int) := of_decide_eq_true q3_
                 have q35 : (ji32) < (t455.size : Int) := of_decide_eq_true q3_
                 have hx35 := bt_at t455 (ji32)
                 replace p35 := eq_true p35
                 replace q35 := eq_true q35
                 go_wp2
                 repeat (go_quiet (fail);try go_wp2)
                 go_ret
                 exact ⟨by first|rfl|(simp [errW_none,errW_some] <;> rfl)|(simp only [← hji32];first|rfl|(simp [errW_none,errW_some] <;> rfl))|(simp [*,errW_none,errW_some] <;> rfl),bl_⟩
               ·rw [if_neg c34] at H
                exact absurd H (by simp)
              ·rw [if_neg c33] at H
               exact absurd H (by simp)
             ·rw [if_neg c30] at H
              exact absurd H (by simp)
            ·rw [if_neg c29] at H
             have c29b0 : decide (x9_4 < (t455.size : Int)) = false := decide_eq_false c29
             clear c29
             obtain rfl := Option.some.inj H
             go_wp2
             repeat (go_quiet (fail);try go_wp2)
             go_ret
             exact ⟨q1_,bl_⟩

/-- THE ONE PURE STATEMENT of batonlaw03_SnappyRuns: yours. -/
def batonlaw03_SnappyRuns.Pure : Prop := ∀ (a0 : ByteArray) (a1 : Int) (a2 : Int), a0.size ≤ 140737488351232 → (Lit.int .i64 a1).wf = true → (Lit.int .i64 a2).wf = true → ∃ k, batonlaw03_SnappyRuns.f k a0 a1 a2 = some true
theorem batonlaw03_SnappyRuns.walk (P : batonlaw03_SnappyRuns.Pure) (a0 : ByteArray) (a1 : Int) (a2 : Int) (w : World) (w0 : a0.size ≤ 140737488351232) (w1 : (Lit.int .i64 a1).wf = true) (w2 : (Lit.int .i64 a2).wf = true) :
  Calls Try.prog 7 #[.string a0,.int .i64 a1,.int .i64 a2] w fun e w'=>e = .returned (.bool true) ∧ Below w.heap.size w w' := by
 obtain ⟨k,h⟩ := P a0 a1 a2 w0 w1 w2
 refine (batonlaw03_SnappyRuns.calls k a0 a1 a2 true w h).mono ?_
 rintro e w' ⟨rfl,hd⟩
 exact ⟨rfl,hd⟩

end Go.Proofs.Ythcjcmgdblhhfaa.PV

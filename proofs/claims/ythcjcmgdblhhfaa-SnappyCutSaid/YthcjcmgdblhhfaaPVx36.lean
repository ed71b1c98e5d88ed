/- The machine side of these statements: what each Go function computes as a plain function, and that its call computes just that. Written by a program of mine (wip/drive.py). No conditions. -/
import Derived.Test.YthcjcmgdblhhfaaPVx0
import Derived.Test.YthcjcmgdblhhfaaPVx10
import Derived.Test.YthcjcmgdblhhfaaPVx18
namespace Go.Proofs.Ythcjcmgdblhhfaa.PV
open Go.RowKit Go.Proofs.YthcjcmgdblhhfaaW.PrintWords Go.Proofs.YthcjcmgdblhhfaaW.PrintLast Go.Proofs.YthcjcmgdblhhfaaW.PrintMore
attribute [local go_sem] max2_int min2_int max_two min_two max_three min_three max_four min_four   -- for this text's walks alone
set_option linter.unusedVariables false
set_option linter.unusedSimpArgs false

/-! ### batonlaw03_SnappyCut: function 8 -/
def batonlaw03_SnappyCut.j0 : Nat → ByteArray → Int → Int → Bool → Option (Bool)
 | 0,_,_,_,_=>none
 | k + 1,x0,x1,x2,x19=>if x19 = true then ((batonlaw03_awake.f k).bind fun t458=>(some t458)) else ((snappy_Decode.f k x0 20000).bind fun bt459=>(if bt459.2 = 0 then (if (IntKind.u64.wrap ((x0.size : Int))) = 0 then (none) else (if 0 ≤ (wrap64 (Int.tmod (IntKind.u64.wrap (x1)) (IntKind.u64.wrap ((x0.size : Int))))) then (if (wrap64 (Int.tmod (IntKind.u64.wrap (x1)) (IntKind.u64.wrap ((x0.size : Int))))) ≤ (x0.size : Int) then ((snappy_Decode.f k (x0.extract 0 ((wrap64 (Int.tmod (IntKind.u64.wrap (x1)) (IntKind.u64.wrap ((x0.size : Int))))) : Int).toNat) 20000).bind fun bt461=>((some (([x2] : List Int) : List Int)).bind fun y463=>(if x0.size + (strOfNums y463).size ≤ 9223372036854775807 then ((snappy_Decode.f k (x0 ++ (strOfNums y463)) 20000).bind fun bt466=>(if bt461.2 = 8 then (if bt466.2 = 8 then (some true) else (some (bt466.2 == 4))) else (if bt461.2 = 4 then (if bt466.2 = 8 then (some true) else (some (bt466.2 == 4))) else (some false)))) else (none)))) else (none)) else (none))) else (some (bt459.1.toList == ([] : List UInt8)))))
def batonlaw03_SnappyCut.f (k : Nat) (a0 : ByteArray) (a1 : Int) (a2 : Int) : Option (Bool) := if (a0.size : Int) > 3000 then (batonlaw03_SnappyCut.j0 k a0 a1 a2 true) else ((batonlaw03_awake.f k).bind fun t457 => (batonlaw03_SnappyCut.j0 k a0 a1 a2 (!t457)))
theorem batonlaw03_SnappyCut.mono_l : ∀ k, (∀ y0 y1 y2 y3, LeO (batonlaw03_SnappyCut.j0 k y0 y1 y2 y3) (batonlaw03_SnappyCut.j0 (k + 1) y0 y1 y2 y3))
 | 0=>fun _ _ _ _ r h=>by simp [batonlaw03_SnappyCut.j0] at h
 | k + 1=>by
  have ih0 := batonlaw03_SnappyCut.mono_l k
  ·intro y0 y1 y2 y3
   unfold batonlaw03_SnappyCut.j0
   repeat' first
   | (with_reducible exact ih0 _ _ _ _)
   | (with_reducible exact batonlaw03_awake.mono _)
   | (with_reducible exact snappy_Decode.mono _ _ _)
   | (with_reducible exact LeO.refl _)
   | (with_reducible exact LeO.none _)
   | (with_reducible refine LeO.ite ?_ ?_)
   | (with_reducible refine LeO.bind ?_ (fun _=>?_))
   | exact ih0 _ _ _ _
   | exact batonlaw03_awake.mono _
   | exact snappy_Decode.mono _ _ _
   | exact LeO.none _
   | refine LeO.ite ?_ ?_
   | refine LeO.bind ?_ (fun _=>?_)
theorem batonlaw03_SnappyCut.mono : ∀ a0 a1 a2 k, LeO (batonlaw03_SnappyCut.f k a0 a1 a2) (batonlaw03_SnappyCut.f (k + 1) a0 a1 a2) := by
 intro a0 a1 a2 k
 have ih0 := batonlaw03_SnappyCut.mono_l k
 unfold batonlaw03_SnappyCut.f
 repeat' first
   | (with_reducible exact ih0 _ _ _ _)
   | (with_reducible exact batonlaw03_awake.mono _)
   | (with_reducible exact snappy_Decode.mono _ _ _)
   | (with_reducible exact LeO.refl _)
   | (with_reducible exact LeO.none _)
   | (with_reducible refine LeO.ite ?_ ?_)
   | (with_reducible refine LeO.bind ?_ (fun _=>?_))
   | exact ih0 _ _ _ _
   | exact batonlaw03_awake.mono _
   | exact snappy_Decode.mono _ _ _
   | exact LeO.none _
   | refine LeO.ite ?_ ?_
   | refine LeO.bind ?_ (fun _=>?_)
set_option maxHeartbeats 8000000 in
set_option maxRecDepth 100000 in
theorem batonlaw03_SnappyCut.calls (k : Nat) (a0 : ByteArray) (a1 : Int) (a2 : Int) (r : Bool) (w : World) (h : batonlaw03_SnappyCut.f k a0 a1 a2 = some r) :
  Calls Try.prog 8 #[.string a0,.int .i64 a1,.int .u8 a2] w fun e w'=>e = .returned (.bool r) ∧ Below w.heap.size w w' := by
 have HB := Aside0.mk (Below.refl w.heap.size w)
 have H : (if (a0.size : Int) > 3000 then (batonlaw03_SnappyCut.j0 k a0 a1 a2 true) else ((batonlaw03_awake.f k).bind fun t457=>(batonlaw03_SnappyCut.j0 k a0 a1 a2 (!t457)))) = some r := h
 clear h
 have HC4 := Aside0.mk H
 clear H
 go_enter Try.func8,Try.ntmps8
 go_upto_region 1 with (fail)
 go_cut [19] (fun v19 wc=>∃ (kq : Nat) (x19_3 : Bool),v19 = .bool x19_3 ∧ Aside0 (batonlaw03_SnappyCut.j0 kq a0 a1 a2 x19_3 = some r) ∧ Aside0 (kq ≤ k) ∧ Aside0 (Below w.heap.size w wc))
 case first =>
  have H := HC4.out
  clear HC4
  by_cases c5 : (a0.size : Int) > 3000
  ·rw [if_pos c5] at H
   have c5b0 : decide (3000 < (a0.size : Int)) = true := decide_eq_true c5
   have c5b1 : decide (3000 < a0.size) = true := decide_eq_true q75_
   clear c5
   (first|rw [c5b0]|(simp only [i64_w,i32_w];rw [c5b0])|skip)
   have H' := Aside0.mk H
   clear H
   go_wp2
   go_meet
   case rel=>exact ⟨_,(true),q4_,H',⟨q50_⟩,⟨bl_⟩⟩
  ·rw [if_neg c5] at H
   have c5b0 : decide (3000 < (a0.size : Int)) = false := decide_eq_false c5
   have c5b1 : decide (3000 < a0.size) = false := decide_eq_false q75_
   clear c5
   (first|rw [c5b0]|(simp only [i64_w,i32_w];rw [c5b0])|skip)
   replace H := Option.bind_eq_some_iff.mp H
   obtain ⟨t457,A60,H⟩ := H
   replace H : (batonlaw03_SnappyCut.j0 k a0 a1 a2 (!t457)) = some r := H
   have A6 := Aside0.mk A60
   clear A60
   have H' := Aside0.mk H
   clear H
   go_wp2_with (first|(go_at_call 12;(with_reducible refine (batonlaw03_awake.calls k  t457 _ A6.out).mono ?_);rintro e w7 ⟨rfl,hb⟩;have n0_ := Aside0.mk (below_step (bl_) hb);clear HB;have HB := n0_;clear n0_;(try clear hb);(try clear hb2);(try clear hk);(try clear hi)))
   go_meet
   case rel=>exact ⟨_,(!t457),q4_,H',⟨q50_⟩,⟨bl_⟩⟩
 case rest =>
  clear HC4
  try clear p2
  try clear c5
  try clear c5b0
  try clear c5b1
  obtain ⟨kq,x19_3,rfl,HA,HJ3,HB⟩ := hcut
  cases kq with
  | zero=>exact absurd HA.out (by simp [batonlaw03_SnappyCut.j0])
  | succ kj3 =>
   have H := HA.out
   clear HA
   simp only [batonlaw03_SnappyCut.j0] at H
   by_cases c8 : x19_3 = true
   ·subst c8
    have H1 : ((batonlaw03_awake.f kj3).bind fun t458=>(some t458)) = some r := by rw [if_pos rfl] at H;exact H
    clear H
    have H := H1
    clear H1
    replace H := Option.bind_eq_some_iff.mp H
    obtain ⟨t458,A90,H⟩ := H
    replace H : (some t458) = some r := H
    have A9 := Aside0.mk A90
    clear A90
    obtain rfl := Option.some.inj H
    go_wp2_with (first|((with_reducible refine gate_callee (f := 12) rfl ?_);refine goesL_ (some 20) rfl rfl Try.func12 q9_ rfl #[] rfl q0_ ?_;(with_reducible refine (batonlaw03_awake.calls kj3  t458 _ A9.out).mono ?_);rintro e w10 ⟨rfl,hb⟩;refine ⟨_,rfl,?_⟩;have n0_ := Aside0.mk (below_step (bl_) hb);clear HB;have HB := n0_;clear n0_;(try clear hb);(try clear hb2);(try clear hk);(try clear hi)))
    go_ret
    exact ⟨q1_,bl_⟩
   ·replace c8 := Bool.eq_false_iff.mpr c8
    subst c8
    have H1 : ((snappy_Decode.f kj3 a0 20000).bind fun bt459=>(if bt459.2 = 0 then (if (IntKind.u64.wrap ((a0.size : Int))) = 0 then (none) else (if 0 ≤ (wrap64 (Int.tmod (IntKind.u64.wrap (a1)) (IntKind.u64.wrap ((a0.size : Int))))) then (if (wrap64 (Int.tmod (IntKind.u64.wrap (a1)) (IntKind.u64.wrap ((a0.size : Int))))) ≤ (a0.size : Int) then ((snappy_Decode.f kj3 (a0.extract 0 ((wrap64 (Int.tmod (IntKind.u64.wrap (a1)) (IntKind.u64.wrap ((a0.size : Int))))) : Int).toNat) 20000).bind fun bt461=>((some (([a2] : List Int) : List Int)).bind fun y463=>(if a0.size + (strOfNums y463).size ≤ 9223372036854775807 then ((snappy_Decode.f kj3 (a0 ++ (strOfNums y463)) 20000).bind fun bt466=>(if bt461.2 = 8 then (if bt466.2 = 8 then (some true) else (some (bt466.2 == 4))) else (if bt461.2 = 4 then (if bt466.2 = 8 then (some true) else (some (bt466.2 == 4))) else (some false)))) else (none)))) else (none)) else (none))) else (some (bt459.1.toList == ([] : List UInt8))))) = some r := by rw [if_neg (show ¬ (false = true) by decide)] at H;exact H
    clear H
    have H := H1
    clear H1
    replace H := Option.bind_eq_some_iff.mp H
    obtain ⟨⟨t459,t460⟩,A110,H⟩ := H
    replace H : (if t460 = 0 then (if (IntKind.u64.wrap ((a0.size : Int))) = 0 then (none) else (if 0 ≤ (wrap64 (Int.tmod (IntKind.u64.wrap (a1)) (IntKind.u64.wrap ((a0.size : Int))))) then (if (wrap64 (Int.tmod (IntKind.u64.wrap (a1)) (IntKind.u64.wrap ((a0.size : Int))))) ≤ (a0.size : Int) then ((snappy_Decode.f kj3 (a0.extract 0 ((wrap64 (Int.tmod (IntKind.u64.wrap (a1)) (IntKind.u64.wrap ((a0.size : Int))))) : Int).toNat) 20000).bind fun bt461=>((some (([a2] : List Int) : List Int)).bind fun y463=>(if a0.size + (strOfNums y463).size ≤ 9223372036854775807 then ((snappy_Decode.f kj3 (a0 ++ (strOfNums y463)) 20000).bind fun bt466=>(if bt461.2 = 8 then (if bt466.2 = 8 then (some true) else (some (bt466.2 == 4))) else (if bt461.2 = 4 then (if bt466.2 = 8 then (some true) else (some (bt466.2 == 4))) else (some false)))) else (none)))) else (none)) else (none))) else (some (t459.toList == ([] : List UInt8)))) = some r := H
    have A11 := Aside0.mk A110
    clear A110
    by_cases c12 : t460 = 0
    ·rw [if_pos c12] at H
     have c12b0 : (t460 == 0) = true := beq_iff_eq.mpr c12
     have c12b1 : (t460 != 0) = false := bne_eq_false_iff_eq.mpr c12
     clear c12
     by_cases c13 : (IntKind.u64.wrap ((a0.size : Int))) = 0
     ·rw [if_pos c13] at H
      exact absurd H (by simp)
     ·rw [if_neg c13] at H
      have c13b0 : ((IntKind.u64.wrap ((a0.size : Int))) == 0) = false := beq_eq_false_iff_ne.mpr c13
      have c13b1 : ((IntKind.u64.wrap ((a0.size : Int))) != 0) = true := bne_iff_ne.mpr c13
      obtain ⟨ji14,hji14⟩ : ∃ j_ : Int,(wrap64 (Int.tmod (IntKind.u64.wrap (a1)) (IntKind.u64.wrap ((a0.size : Int))))) = j_ := ⟨_,rfl⟩
      replace H : (if 0 ≤ (ji14) then (if (ji14) ≤ (a0.size : Int) then ((snappy_Decode.f kj3 (a0.extract 0 ((ji14) : Int).toNat) 20000).bind fun bt461=>((some (([a2] : List Int) : List Int)).bind fun y463=>(if a0.size + (strOfNums y463).size ≤ 9223372036854775807 then ((snappy_Decode.f kj3 (a0 ++ (strOfNums y463)) 20000).bind fun bt466=>(if bt461.2 = 8 then (if bt466.2 = 8 then (some true) else (some (bt466.2 == 4))) else (if bt461.2 = 4 then (if bt466.2 = 8 then (some true) else (some (bt466.2 == 4))) else (some false)))) else (none)))) else (none)) else (none)) = some r := by first|(rw [hji14] at H;exact H)|(simp only [hji14] at H ⊢;exact H)
      (try rw [hji14] at A11)
      have hji14w : (IntKind.i64.wrap (Int.tmod (IntKind.u64.wrap (a1)) (IntKind.u64.wrap ((a0.size : Int))))) = ji14 := (i64_w _).trans hji14
      by_cases c15 : 0 ≤ (ji14)
      ·rw [if_pos c15] at H
       have c15b0 := eq_true c15
       have c15b1 : decide (0 ≤ (ji14)) = true := decide_eq_true c15
       clear c15
       by_cases c16 : (ji14) ≤ (a0.size : Int)
       ·rw [if_pos c16] at H
        have c16b0 := eq_true c16
        have c16b1 : decide ((ji14) ≤ (a0.size : Int)) = true := decide_eq_true c16
        clear c16
        replace H := Option.bind_eq_some_iff.mp H
        obtain ⟨⟨t461,t462⟩,A170,H⟩ := H
        replace H : ((some (([a2] : List Int) : List Int)).bind fun y463=>(if a0.size + (strOfNums y463).size ≤ 9223372036854775807 then ((snappy_Decode.f kj3 (a0 ++ (strOfNums y463)) 20000).bind fun bt466=>(if t462 = 8 then (if bt466.2 = 8 then (some true) else (some (bt466.2 == 4))) else (if t462 = 4 then (if bt466.2 = 8 then (some true) else (some (bt466.2 == 4))) else (some false)))) else (none))) = some r := H
        have A17 := Aside0.mk A170
        clear A170
        obtain ⟨y463,hy463⟩ : ∃ y_ : List Int,y_ = (([a2] : List Int)) := ⟨_,rfl⟩
        replace H : (if a0.size + (strOfNums y463).size ≤ 9223372036854775807 then ((snappy_Decode.f kj3 (a0 ++ (strOfNums y463)) 20000).bind fun bt466=>(if t462 = 8 then (if bt466.2 = 8 then (some true) else (some (bt466.2 == 4))) else (if t462 = 4 then (if bt466.2 = 8 then (some true) else (some (bt466.2 == 4))) else (some false)))) else (none)) = some r := by first|(rw [hy463];with_reducible exact H)|(have H2_ := (Option.bind_some _ _).symm.trans H;rw [hy463];with_reducible exact H2_)|(have H2_ := (Option.bind_some _ _).symm.trans H;with_reducible exact H2_)|with_reducible exact H|(rw [hy463];exact H)|exact H
        have Ny463 := Aside0.mk hy463
        clear hy463
        by_cases c18 : a0.size + (strOfNums y463).size ≤ 9223372036854775807
        ·rw [if_pos c18] at H
         have c18b0 := eq_true c18
         have c18b1 : decide (a0.size + (strOfNums y463).size ≤ 9223372036854775807) = true := decide_eq_true c18
         try have c18b2 : (9223372036854775807 < a0.size + (strOfNums y463).size) = False := eq_false (Nat.not_lt.2 c18)
         have hz_ : IntKind.u64.wrap ((a0.size : Int)) = (a0.size : Int) := by unfold IntKind.wrap;simp [IntKind.signed,IntKind.bits];omega
         rw [hz_] at hji14 hji14w c13b0 c13b1
         replace H := Option.bind_eq_some_iff.mp H
         obtain ⟨⟨t466,t467⟩,A190,H⟩ := H
         replace H : (if t462 = 8 then (if t467 = 8 then (some true) else (some (t467 == 4))) else (if t462 = 4 then (if t467 = 8 then (some true) else (some (t467 == 4))) else (some false))) = some r := H
         have A19 := Aside0.mk A190
         clear A190
         by_cases c20 : t462 = 8
         ·rw [if_pos c20] at H
          have c20b0 : (t462 == 8) = true := beq_iff_eq.mpr c20
          have c20b1 : (t462 != 8) = false := bne_eq_false_iff_eq.mpr c20
          clear c20
          by_cases c21 : t467 = 8
          ·rw [if_pos c21] at H
           have c21b0 : (t467 == 8) = true := beq_iff_eq.mpr c21
           have c21b1 : (t467 != 8) = false := bne_eq_false_iff_eq.mpr c21
           clear c21
           obtain rfl := Option.some.inj H
           go_wp2_with (first|((with_reducible refine gate_callee (f := 13) rfl ?_);refine goesL_ (some 23) rfl rfl Try.func13 q9_ rfl #[.string a0,.int .i64 20000] rfl q0_ ?_;(with_reducible refine (snappy_Decode.calls kj3 a0 20000 t459 t460 _ A11.out).mono ?_);rintro e w22 ⟨rfl,hb⟩;refine ⟨_,rfl,?_⟩;have n0_ := Aside0.mk (below_step (bl_) hb);clear HB;have HB := n0_;clear n0_;(try clear hb);(try clear hb2);(try clear hk);(try clear hi))|((with_reducible refine gate_callee (f := 13) rfl ?_);refine goesL_ (some 40) rfl rfl Try.func13 q9_ rfl #[.string (a0.extract 0 ((ji14) : Int).toNat),.int .i64 20000] rfl q70_ ?_;(with_reducible refine (snappy_Decode.calls kj3 (a0.extract 0 ((ji14) : Int).toNat) 20000 t461 t462 _ A17.out).mono ?_);rintro e w23 ⟨rfl,hb⟩;refine ⟨_,rfl,?_⟩;have n0_ := Aside0.mk (below_step (bl_) hb);clear HB;have HB := n0_;clear n0_;(try clear hb);(try clear hb2);(try clear hk);(try clear hi))|((with_reducible refine gate_dst (N := 46) rfl ?_);refine Kd.R_lit (Kd.int .u8) _ 5 ?hg (N := 46) ?hd (xs := ([a2] : List Int)) (inner := [.int .u8 a2]) (ok := fun _=>True) (okp := fun _=>True) ?hr ?hp (fun _ hk=>hk) trivial (Below.refl _ _) (Nat.le_refl _) (by simp) ?_;(case hd=>rfl);(case hg=>rfl);(case hr=>first|(go_simp;done)|(go_simp;rfl)|(go_simp;simp [my_u8w];done));(case hp=>exact (Reps.one (show Kd.M (Kd.int .u8) _ _ _ a2 [.int .u8 a2] from rfl) (Reps.none _ _)));intro v464 w24 ho25 hb hg_ hnew_;clear hg_ hnew_;(first|rw [← Ny463.out] at ho25|(simp only [Int.reduceToNat] at ho25;rw [← Ny463.out] at ho25));have n0_ := Aside0.mk (Kd.R_lower ho25 (below_size (bl_)));have n1_ := Aside0.mk (below_step (bl_) hb);clear HB;have HO465 := n0_;have HB := n1_;clear n0_ n1_;clear hb ho25;have hcv26 := own_string (P := Try.prog) Try.underlying28 Try.underlying5 Try.underlying9 (Kd.own_of_R HO465.out))|((with_reducible refine gate_callee (f := 13) rfl ?_);refine goesL_ (some 49) rfl rfl Try.func13 q9_ rfl #[.string (a0 ++ (strOfNums y463)),.int .i64 20000] rfl q0_ ?_;(with_reducible refine (snappy_Decode.calls kj3 (a0 ++ (strOfNums y463)) 20000 t466 t467 _ A19.out).mono ?_);rintro e w27 ⟨rfl,hb⟩;refine ⟨_,rfl,?_⟩;have n0_ := Aside0.mk (Kd.R_below q88_ hb);have n1_ := Aside0.mk (below_step (bl_) hb);clear HO465;clear HB;have HO465 := n0_;have HB := n1_;clear n0_ n1_;(try clear hb);(try clear hb2);(try clear hk);(try clear hi)))
           go_ret
           exact ⟨q69_,bl_⟩
          ·rw [if_neg c21] at H
           have c21b0 : (t467 == 8) = false := beq_eq_false_iff_ne.mpr c21
           have c21b1 : (t467 != 8) = true := bne_iff_ne.mpr c21
           obtain rfl := Option.some.inj H
           go_wp2_with (first|((with_reducible refine gate_callee (f := 13) rfl ?_);refine goesL_ (some 23) rfl rfl Try.func13 q9_ rfl #[.string a0,.int .i64 20000] rfl q0_ ?_;(with_reducible refine (snappy_Decode.calls kj3 a0 20000 t459 t460 _ A11.out).mono ?_);rintro e w28 ⟨rfl,hb⟩;refine ⟨_,rfl,?_⟩;have n0_ := Aside0.mk (below_step (bl_) hb);clear HB;have HB := n0_;clear n0_;(try clear hb);(try clear hb2);(try clear hk);(try clear hi))|((with_reducible refine gate_callee (f := 13) rfl ?_);refine goesL_ (some 40) rfl rfl Try.func13 q9_ rfl #[.string (a0.extract 0 ((ji14) : Int).toNat),.int .i64 20000] rfl q70_ ?_;(with_reducible refine (snappy_Decode.calls kj3 (a0.extract 0 ((ji14) : Int).toNat) 20000 t461 t462 _ A17.out).mono ?_);rintro e w29 ⟨rfl,hb⟩;refine ⟨_,rfl,?_⟩;have n0_ := Aside0.mk (below_step (bl_) hb);clear HB;have HB := n0_;clear n0_;(try clear hb);(try clear hb2);(try clear hk);(try clear hi))|((with_reducible refine gate_dst (N := 46) rfl ?_);refine Kd.R_lit (Kd.int .u8) _ 5 ?hg (N := 46) ?hd (xs := ([a2] : List Int)) (inner := [.int .u8 a2]) (ok := fun _=>True) (okp := fun _=>True) ?hr ?hp (fun _ hk=>hk) trivial (Below.refl _ _) (Nat.le_refl _) (by simp) ?_;(case hd=>rfl);(case hg=>rfl);(case hr=>first|(go_simp;done)|(go_simp;rfl)|(go_simp;simp [my_u8w];done));(case hp=>exact (Reps.one (show Kd.M (Kd.int .u8) _ _ _ a2 [.int .u8 a2] from rfl) (Reps.none _ _)));intro v464 w30 ho31 hb hg_ hnew_;clear hg_ hnew_;(first|rw [← Ny463.out] at ho31|(simp only [Int.reduceToNat] at ho31;rw [← Ny463.out] at ho31));have n0_ := Aside0.mk (Kd.R_lower ho31 (below_size (bl_)));have n1_ := Aside0.mk (below_step (bl_) hb);clear HB;have HO465 := n0_;have HB := n1_;clear n0_ n1_;clear hb ho31;have hcv32 := own_string (P := Try.prog) Try.underlying28 Try.underlying5 Try.underlying9 (Kd.own_of_R HO465.out))|((with_reducible refine gate_callee (f := 13) rfl ?_);refine goesL_ (some 49) rfl rfl Try.func13 q9_ rfl #[.string (a0 ++ (strOfNums y463)),.int .i64 20000] rfl q0_ ?_;(with_reducible refine (snappy_Decode.calls kj3 (a0 ++ (strOfNums y463)) 20000 t466 t467 _ A19.out).mono ?_);rintro e w33 ⟨rfl,hb⟩;refine ⟨_,rfl,?_⟩;have n0_ := Aside0.mk (Kd.R_below q88_ hb);have n1_ := Aside0.mk (below_step (bl_) hb);clear HO465;clear HB;have HO465 := n0_;have HB := n1_;clear n0_ n1_;(try clear hb);(try clear hb2);(try clear hk);(try clear hi)))
           go_ret
           exact ⟨q69_,bl_⟩
         ·rw [if_neg c20] at H
          have c20b0 : (t462 == 8) = false := beq_eq_false_iff_ne.mpr c20
          have c20b1 : (t462 != 8) = true := bne_iff_ne.mpr c20
          by_cases c34 : t462 = 4
          ·rw [if_pos c34] at H
           have c34b0 : (t462 == 4) = true := beq_iff_eq.mpr c34
           have c34b1 : (t462 != 4) = false := bne_eq_false_iff_eq.mpr c34
           clear c34
           by_cases c35 : t467 = 8
           ·rw [if_pos c35] at H
            have c35b0 : (t467 == 8) = true := beq_iff_eq.mpr c35
            have c35b1 : (t467 != 8) = false := bne_eq_false_iff_eq.mpr c35
            clear c35
            obtain rfl := Option.some.inj H
            go_wp2_with (first|((with_reducible refine gate_callee (f := 13) rfl ?_);refine goesL_ (some 23) rfl rfl Try.func13 q9_ rfl #[.string a0,.int .i64 20000] rfl q0_ ?_;(with_reducible refine (snappy_Decode.calls kj3 a0 20000 t459 t460 _ A11.out).mono ?_);rintro e w36 ⟨rfl,hb⟩;refine ⟨_,rfl,?_⟩;have n0_ := Aside0.mk (below_step (bl_) hb);clear HB;have HB := n0_;clear n0_;(try clear hb);(try clear hb2);(try clear hk);(try clear hi))|((with_reducible refine gate_callee (f := 13) rfl ?_);refine goesL_ (some 40) rfl rfl Try.func13 q9_ rfl #[.string (a0.extract 0 ((ji14) : Int).toNat),.int .i64 20000] rfl q70_ ?_;(with_reducible refine (snappy_Decode.calls kj3 (a0.extract 0 ((ji14) : Int).toNat) 20000 t461 t462 _ A17.out).mono ?_);rintro e w37 ⟨rfl,hb⟩;refine ⟨_,rfl,?_⟩;have n0_ := Aside0.mk (below_step (bl_) hb);clear HB;have HB := n0_;clear n0_;(try clear hb);(try clear hb2);(try clear hk);(try clear hi))|((with_reducible refine gate_dst (N := 46) rfl ?_);refine Kd.R_lit (Kd.int .u8) _ 5 ?hg (N := 46) ?hd (xs := ([a2] : List Int)) (inner := [.int .u8 a2]) (ok := fun _=>True) (okp := fun _=>True) ?hr ?hp (fun _ hk=>hk) trivial (Below.refl _ _) (Nat.le_refl _) (by simp) ?_;(case hd=>rfl);(case hg=>rfl);(case hr=>first|(go_simp;done)|(go_simp;rfl)|(go_simp;simp [my_u8w];done));(case hp=>exact (Reps.one (show Kd.M (Kd.int .u8) _ _ _ a2 [.int .u8 a2] from rfl) (Reps.none _ _)));intro v464 w38 ho39 hb hg_ hnew_;clear hg_ hnew_;(first|rw [← Ny463.out] at ho39|(simp only [Int.reduceToNat] at ho39;rw [← Ny463.out] at ho39));have n0_ := Aside0.mk (Kd.R_lower ho39 (below_size (bl_)));have n1_ := Aside0.mk (below_step (bl_) hb);clear HB;have HO465 := n0_;have HB := n1_;clear n0_ n1_;clear hb ho39;have hcv40 := own_string (P := Try.prog) Try.underlying28 Try.underlying5 Try.underlying9 (Kd.own_of_R HO465.out))|((with_reducible refine gate_callee (f := 13) rfl ?_);refine goesL_ (some 49) rfl rfl Try.func13 q9_ rfl #[.string (a0 ++ (strOfNums y463)),.int .i64 20000] rfl q0_ ?_;(with_reducible refine (snappy_Decode.calls kj3 (a0 ++ (strOfNums y463)) 20000 t466 t467 _ A19.out).mono ?_);rintro e w41 ⟨rfl,hb⟩;refine ⟨_,rfl,?_⟩;have n0_ := Aside0.mk (Kd.R_below q88_ hb);have n1_ := Aside0.mk (below_step (bl_) hb);clear HO465;clear HB;have HO465 := n0_;have HB := n1_;clear n0_ n1_;(try clear hb);(try clear hb2);(try clear hk);(try clear hi)))
            go_ret
            exact ⟨q69_,bl_⟩
           ·rw [if_neg c35] at H
            have c35b0 : (t467 == 8) = false := beq_eq_false_iff_ne.mpr c35
            have c35b1 : (t467 != 8) = true := bne_iff_ne.mpr c35
            obtain rfl := Option.some.inj H
            go_wp2_with (first|((with_reducible refine gate_callee (f := 13) rfl ?_);refine goesL_ (some 23) rfl rfl Try.func13 q9_ rfl #[.string a0,.int .i64 20000] rfl q0_ ?_;(with_reducible refine (snappy_Decode.calls kj3 a0 20000 t459 t460 _ A11.out).mono ?_);rintro e w42 ⟨rfl,hb⟩;refine ⟨_,rfl,?_⟩;have n0_ := Aside0.mk (below_step (bl_) hb);clear HB;have HB := n0_;clear n0_;(try clear hb);(try clear hb2);(try clear hk);(try clear hi))|((with_reducible refine gate_callee (f := 13) rfl ?_);refine goesL_ (some 40) rfl rfl Try.func13 q9_ rfl #[.string (a0.extract 0 ((ji14) : Int).toNat),.int .i64 20000] rfl q70_ ?_;(with_reducible refine (snappy_Decode.calls kj3 (a0.extract 0 ((ji14) : Int).toNat) 20000 t461 t462 _ A17.out).mono ?_);rintro e w43 ⟨rfl,hb⟩;refine ⟨_,rfl,?_⟩;have n0_ := Aside0.mk (below_step (bl_) hb);clear HB;have HB := n0_;clear n0_;(try clear hb);(try clear hb2);(try clear hk);(try clear hi))|((with_reducible refine gate_dst (N := 46) rfl ?_);refine Kd.R_lit (Kd.int .u8) _ 5 ?hg (N := 46) ?hd (xs := ([a2] : List Int)) (inner := [.int .u8 a2]) (ok := fun _=>True) (okp := fun _=>True) ?hr ?hp (fun _ hk=>hk) trivial (Below.refl _ _) (Nat.le_refl _) (by simp) ?_;(case hd=>rfl);(case hg=>rfl);(case hr=>first|(go_simp;done)|(go_simp;rfl)|(go_simp;simp [my_u8w];done));(case hp=>exact (Reps.one (show Kd.M (Kd.int .u8) _ _ _ a2 [.int .u8 a2] from rfl) (Reps.none _ _)));intro v464 w44 ho45 hb hg_ hnew_;clear hg_ hnew_;(first|rw [← Ny463.out] at ho45|(simp only [Int.reduceToNat] at ho45;rw [← Ny463.out] at ho45));have n0_ := Aside0.mk (Kd.R_lower ho45 (below_size (bl_)));have n1_ := Aside0.mk (below_step (bl_) hb);clear HB;have HO465 := n0_;have HB := n1_;clear n0_ n1_;clear hb ho45;have hcv46 := own_string (P := Try.prog) Try.underlying28 Try.underlying5 Try.underlying9 (Kd.own_of_R HO465.out))|((with_reducible refine gate_callee (f := 13) rfl ?_);refine goesL_ (some 49) rfl rfl Try.func13 q9_ rfl #[.string (a0 ++ (strOfNums y463)),.int .i64 20000] rfl q0_ ?_;(with_reducible refine (snappy_Decode.calls kj3 (a0 ++ (strOfNums y463)) 20000 t466 t467 _ A19.out).mono ?_);rintro e w47 ⟨rfl,hb⟩;refine ⟨_,rfl,?_⟩;have n0_ := Aside0.mk (Kd.R_below q88_ hb);have n1_ := Aside0.mk (below_step (bl_) hb);clear HO465;clear HB;have HO465 := n0_;have HB := n1_;clear n0_ n1_;(try clear hb);(try clear hb2);(try clear hk);(try clear hi)))
            go_ret
            exact ⟨q69_,bl_⟩
          ·rw [if_neg c34] at H
           have c34b0 : (t462 == 4) = false := beq_eq_false_iff_ne.mpr c34
           have c34b1 : (t462 != 4) = true := bne_iff_ne.mpr c34
           obtain rfl := Option.some.inj H
           go_wp2_with (first|((with_reducible refine gate_callee (f := 13) rfl ?_);refine goesL_ (some 23) rfl rfl Try.func13 q9_ rfl #[.string a0,.int .i64 20000] rfl q0_ ?_;(with_reducible refine (snappy_Decode.calls kj3 a0 20000 t459 t460 _ A11.out).mono ?_);rintro e w48 ⟨rfl,hb⟩;refine ⟨_,rfl,?_⟩;have n0_ := Aside0.mk (below_step (bl_) hb);clear HB;have HB := n0_;clear n0_;(try clear hb);(try clear hb2);(try clear hk);(try clear hi))|((with_reducible refine gate_callee (f := 13) rfl ?_);refine goesL_ (some 40) rfl rfl Try.func13 q9_ rfl #[.string (a0.extract 0 ((ji14) : Int).toNat),.int .i64 20000] rfl q70_ ?_;(with_reducible refine (snappy_Decode.calls kj3 (a0.extract 0 ((ji14) : Int).toNat) 20000 t461 t462 _ A17.out).mono ?_);rintro e w49 ⟨rfl,hb⟩;refine ⟨_,rfl,?_⟩;have n0_ := Aside0.mk (below_step (bl_) hb);clear HB;have HB := n0_;clear n0_;(try clear hb);(try clear hb2);(try clear hk);(try clear hi))|((with_reducible refine gate_dst (N := 46) rfl ?_);refine Kd.R_lit (Kd.int .u8) _ 5 ?hg (N := 46) ?hd (xs := ([a2] : List Int)) (inner := [.int .u8 a2]) (ok := fun _=>True) (okp := fun _=>True) ?hr ?hp (fun _ hk=>hk) trivial (Below.refl _ _) (Nat.le_refl _) (by simp) ?_;(case hd=>rfl);(case hg=>rfl);(case hr=>first|(go_simp;done)|(go_simp;rfl)|(go_simp;simp [my_u8w];done));(case hp=>exact (Reps.one (show Kd.M (Kd.int .u8) _ _ _ a2 [.int .u8 a2] from rfl) (Reps.none _ _)));intro v464 w50 ho51 hb hg_ hnew_;clear hg_ hnew_;(first|rw [← Ny463.out] at ho51|(simp only [Int.reduceToNat] at ho51;rw [← Ny463.out] at ho51));have n0_ := Aside0.mk (Kd.R_lower ho51 (below_size (bl_)));have n1_ := Aside0.mk (below_step (bl_) hb);clear HB;have HO465 := n0_;have HB := n1_;clear n0_ n1_;clear hb ho51;have hcv52 := own_string (P := Try.prog) Try.underlying28 Try.underlying5 Try.underlying9 (Kd.own_of_R HO465.out))|((with_reducible refine gate_callee (f := 13) rfl ?_);refine goesL_ (some 49) rfl rfl Try.func13 q9_ rfl #[.string (a0 ++ (strOfNums y463)),.int .i64 20000] rfl q0_ ?_;(with_reducible refine (snappy_Decode.calls kj3 (a0 ++ (strOfNums y463)) 20000 t466 t467 _ A19.out).mono ?_);rintro e w53 ⟨rfl,hb⟩;refine ⟨_,rfl,?_⟩;have n0_ := Aside0.mk (Kd.R_below q88_ hb);have n1_ := Aside0.mk (below_step (bl_) hb);clear HO465;clear HB;have HO465 := n0_;have HB := n1_;clear n0_ n1_;(try clear hb);(try clear hb2);(try clear hk);(try clear hi)))
           go_ret
           exact ⟨q69_,bl_⟩
        ·rw [if_neg c18] at H
         exact absurd H (by simp)
       ·rw [if_neg c16] at H
        exact absurd H (by simp)
      ·rw [if_neg c15] at H
       exact absurd H (by simp)
    ·rw [if_neg c12] at H
     have c12b0 : (t460 == 0) = false := beq_eq_false_iff_ne.mpr c12
     have c12b1 : (t460 != 0) = true := bne_iff_ne.mpr c12
     obtain rfl := Option.some.inj H
     go_wp2_with (first|((with_reducible refine gate_callee (f := 13) rfl ?_);refine goesL_ (some 23) rfl rfl Try.func13 q9_ rfl #[.string a0,.int .i64 20000] rfl q0_ ?_;(with_reducible refine (snappy_Decode.calls kj3 a0 20000 t459 t460 _ A11.out).mono ?_);rintro e w54 ⟨rfl,hb⟩;refine ⟨_,rfl,?_⟩;have n0_ := Aside0.mk (below_step (bl_) hb);clear HB;have HB := n0_;clear n0_;(try clear hb);(try clear hb2);(try clear hk);(try clear hi)))
     go_ret
     exact ⟨q1_,bl_⟩

/-- THE ONE PURE STATEMENT of batonlaw03_SnappyCut: yours. -/
def batonlaw03_SnappyCut.Pure : Prop := ∀ (a0 : ByteArray) (a1 : Int) (a2 : Int), a0.size ≤ 140737488351232 → (Lit.int .i64 a1).wf = true → (Lit.int .u8 a2).wf = true → ∃ k, batonlaw03_SnappyCut.f k a0 a1 a2 = some true
theorem batonlaw03_SnappyCut.walk (P : batonlaw03_SnappyCut.Pure) (a0 : ByteArray) (a1 : Int) (a2 : Int) (w : World) (w0 : a0.size ≤ 140737488351232) (w1 : (Lit.int .i64 a1).wf = true) (w2 : (Lit.int .u8 a2).wf = true) :
  Calls Try.prog 8 #[.string a0,.int .i64 a1,.int .u8 a2] w fun e w'=>e = .returned (.bool true) ∧ Below w.heap.size w w' := by
 obtain ⟨k,h⟩ := P a0 a1 a2 w0 w1 w2
 refine (batonlaw03_SnappyCut.calls k a0 a1 a2 true w h).mono ?_
 rintro e w' ⟨rfl,hd⟩
 exact ⟨rfl,hd⟩

end Go.Proofs.Ythcjcmgdblhhfaa.PV

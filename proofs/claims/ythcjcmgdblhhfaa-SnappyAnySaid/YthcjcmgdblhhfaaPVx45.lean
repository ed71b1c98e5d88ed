/- The machine side of these statements: what each Go function computes as a plain function, and that its call computes just that. Written by a program of mine (wip/drive.py). No conditions. -/
import Derived.Test.YthcjcmgdblhhfaaPVx0
import Derived.Test.YthcjcmgdblhhfaaPVx10
import Derived.Test.YthcjcmgdblhhfaaPVx13
import Derived.Test.YthcjcmgdblhhfaaPVx16
import Derived.Test.YthcjcmgdblhhfaaPVx18
import Derived.Test.YthcjcmgdblhhfaaPVx20
import Derived.Test.YthcjcmgdblhhfaaPVx21
import Derived.Test.YthcjcmgdblhhfaaPVx28
import Derived.Test.YthcjcmgdblhhfaaPVx42
namespace Go.Proofs.Ythcjcmgdblhhfaa.PV
open Go.RowKit Go.Proofs.YthcjcmgdblhhfaaW.PrintWords Go.Proofs.YthcjcmgdblhhfaaW.PrintLast Go.Proofs.YthcjcmgdblhhfaaW.PrintMore
attribute [local go_sem] max2_int min2_int max_two min_two max_three min_three max_four min_four   -- for this text's walks alone
set_option linter.unusedVariables false
set_option linter.unusedSimpArgs false

/-! ### batonlaw03_SnappyAny: function 11 -/
mutual
def batonlaw03_SnappyAny.j0 : Nat → List (S72) → Bool → Option (Bool)
 | 0,_,_=>none
 | k + 1,x0,x17=>if x17 = true then ((batonlaw03_awake.f k).bind fun t565=>(some t565)) else ((batonlaw03_given.f k x0).bind fun t566=>((snappy_Expand.f k t566 65536).bind fun bt569=>((snappy_Write.f k t566).bind fun bt571=>(if bt569.2 = 0 then (batonlaw03_SnappyAny.j1 k x0 bt569.1 bt569.2 bt571.1 bt571.2 (bt571.2 != 0)) else (batonlaw03_SnappyAny.j1 k x0 bt569.1 bt569.2 bt571.1 bt571.2 true)))))
def batonlaw03_SnappyAny.j1 : Nat → List (S72) → ByteArray → Int → ByteArray → Int → Bool → Option (Bool)
 | 0,_,_,_,_,_,_=>none
 | k + 1,x0,x4,x5,x6,x7,x36=>if x36 = true then (if x5 = x7 then (if x4.toList = ([] : List UInt8) then (some (x6.toList == ([] : List UInt8))) else (some false)) else (some false)) else ((snappy_Decode.f k x6 65536).bind fun bt573=>((snappy_Parts.f k x6).bind fun bt575=>(if bt573.2 = 0 then (if bt573.1.toList = x4.toList then (if bt575.2 = 0 then ((batonlaw03_same.f k bt575.1 x0).bind fun t579=>(some t579)) else (some false)) else (some false)) else (some false))))
end
def batonlaw03_SnappyAny.f (k : Nat) (l0 : List (S72)) : Option (Bool) := (batonlaw03_long.f k l0).bind fun t563 => (if t563 = true then (batonlaw03_SnappyAny.j0 k l0 true) else ((batonlaw03_awake.f k).bind fun t564 => (batonlaw03_SnappyAny.j0 k l0 (!t564))))
theorem batonlaw03_SnappyAny.mono_l : ∀ k, (∀ y0 y1, LeO (batonlaw03_SnappyAny.j0 k y0 y1) (batonlaw03_SnappyAny.j0 (k + 1) y0 y1)) ∧ (∀ y0 y1 y2 y3 y4 y5, LeO (batonlaw03_SnappyAny.j1 k y0 y1 y2 y3 y4 y5) (batonlaw03_SnappyAny.j1 (k + 1) y0 y1 y2 y3 y4 y5))
 | 0=>⟨fun _ _ r h=>by simp [batonlaw03_SnappyAny.j0] at h,fun _ _ _ _ _ _ r h=>by simp [batonlaw03_SnappyAny.j1] at h⟩
 | k + 1=>by
  obtain ⟨ih0,ih1⟩ := batonlaw03_SnappyAny.mono_l k
  refine ⟨?_,?_⟩
  ·intro y0 y1
   unfold batonlaw03_SnappyAny.j0
   repeat' first
   | (with_reducible exact ih0 _ _)
   | (with_reducible exact ih1 _ _ _ _ _ _)
   | (with_reducible exact batonlaw03_awake.mono _)
   | (with_reducible exact batonlaw03_given.mono _ _)
   | (with_reducible exact batonlaw03_long.mono _ _)
   | (with_reducible exact batonlaw03_same.mono _ _ _)
   | (with_reducible exact snappy_Decode.mono _ _ _)
   | (with_reducible exact snappy_Expand.mono _ _ _)
   | (with_reducible exact snappy_Parts.mono _ _)
   | (with_reducible exact snappy_Write.mono _ _)
   | (with_reducible exact LeO.refl _)
   | (with_reducible exact LeO.none _)
   | (with_reducible refine LeO.ite ?_ ?_)
   | (with_reducible refine LeO.bind ?_ (fun _=>?_))
   | exact ih0 _ _
   | exact ih1 _ _ _ _ _ _
   | exact batonlaw03_awake.mono _
   | exact batonlaw03_given.mono _ _
   | exact batonlaw03_long.mono _ _
   | exact batonlaw03_same.mono _ _ _
   | exact snappy_Decode.mono _ _ _
   | exact snappy_Expand.mono _ _ _
   | exact snappy_Parts.mono _ _
   | exact snappy_Write.mono _ _
   | exact LeO.none _
   | refine LeO.ite ?_ ?_
   | refine LeO.bind ?_ (fun _=>?_)
  ·intro y0 y1 y2 y3 y4 y5
   unfold batonlaw03_SnappyAny.j1
   repeat' first
   | (with_reducible exact ih0 _ _)
   | (with_reducible exact ih1 _ _ _ _ _ _)
   | (with_reducible exact batonlaw03_awake.mono _)
   | (with_reducible exact batonlaw03_given.mono _ _)
   | (with_reducible exact batonlaw03_long.mono _ _)
   | (with_reducible exact batonlaw03_same.mono _ _ _)
   | (with_reducible exact snappy_Decode.mono _ _ _)
   | (with_reducible exact snappy_Expand.mono _ _ _)
   | (with_reducible exact snappy_Parts.mono _ _)
   | (with_reducible exact snappy_Write.mono _ _)
   | (with_reducible exact LeO.refl _)
   | (with_reducible exact LeO.none _)
   | (with_reducible refine LeO.ite ?_ ?_)
   | (with_reducible refine LeO.bind ?_ (fun _=>?_))
   | exact ih0 _ _
   | exact ih1 _ _ _ _ _ _
   | exact batonlaw03_awake.mono _
   | exact batonlaw03_given.mono _ _
   | exact batonlaw03_long.mono _ _
   | exact batonlaw03_same.mono _ _ _
   | exact snappy_Decode.mono _ _ _
   | exact snappy_Expand.mono _ _ _
   | exact snappy_Parts.mono _ _
   | exact snappy_Write.mono _ _
   | exact LeO.none _
   | refine LeO.ite ?_ ?_
   | refine LeO.bind ?_ (fun _=>?_)
theorem batonlaw03_SnappyAny.mono : ∀ a0 k, LeO (batonlaw03_SnappyAny.f k a0) (batonlaw03_SnappyAny.f (k + 1) a0) := by
 intro a0 k
 obtain ⟨ih0,ih1⟩ := batonlaw03_SnappyAny.mono_l k
 unfold batonlaw03_SnappyAny.f
 repeat' first
   | (with_reducible exact ih0 _ _)
   | (with_reducible exact ih1 _ _ _ _ _ _)
   | (with_reducible exact batonlaw03_awake.mono _)
   | (with_reducible exact batonlaw03_given.mono _ _)
   | (with_reducible exact batonlaw03_long.mono _ _)
   | (with_reducible exact batonlaw03_same.mono _ _ _)
   | (with_reducible exact snappy_Decode.mono _ _ _)
   | (with_reducible exact snappy_Expand.mono _ _ _)
   | (with_reducible exact snappy_Parts.mono _ _)
   | (with_reducible exact snappy_Write.mono _ _)
   | (with_reducible exact LeO.refl _)
   | (with_reducible exact LeO.none _)
   | (with_reducible refine LeO.ite ?_ ?_)
   | (with_reducible refine LeO.bind ?_ (fun _=>?_))
   | exact ih0 _ _
   | exact ih1 _ _ _ _ _ _
   | exact batonlaw03_awake.mono _
   | exact batonlaw03_given.mono _ _
   | exact batonlaw03_long.mono _ _
   | exact batonlaw03_same.mono _ _ _
   | exact snappy_Decode.mono _ _ _
   | exact snappy_Expand.mono _ _ _
   | exact snappy_Parts.mono _ _
   | exact snappy_Write.mono _ _
   | exact LeO.none _
   | refine LeO.ite ?_ ?_
   | refine LeO.bind ?_ (fun _=>?_)
set_option maxHeartbeats 8000000 in
set_option maxRecDepth 100000 in
theorem batonlaw03_SnappyAny.calls (k : Nat) (A0 : Option Addr) (c0 : Nat) (l0 : List (S72)) (r : Bool) (w : World) (hr0 : Kd.C k72 w A0 l0.length l0) (hc0 : l0.length ≤ c0) (h : batonlaw03_SnappyAny.f k l0 = some r) :
  Calls Try.prog 11 #[.slice A0 l0.length c0] w fun e w'=>e = .returned (.bool r) ∧ Below w.heap.size w w' := by
 have HR0 := Aside0.mk hr0
 have HC0 := Aside0.mk hc0
 clear hr0 hc0
 have HB := Aside0.mk (Below.refl w.heap.size w)
 have H : ((batonlaw03_long.f k l0).bind fun t563=>(if t563 = true then (batonlaw03_SnappyAny.j0 k l0 true) else ((batonlaw03_awake.f k).bind fun t564=>(batonlaw03_SnappyAny.j0 k l0 (!t564))))) = some r := h
 clear h
 have HC2 := Aside0.mk H
 clear H
 go_enter Try.func11,Try.ntmps11
 go_upto_region 1 with (fail)
 go_cut [17] (fun v17 wc=>∃ (kq : Nat) (x17_1 : Bool),v17 = .bool x17_1 ∧ Aside0 (batonlaw03_SnappyAny.j0 kq l0 x17_1 = some r) ∧ Aside0 (kq ≤ k) ∧ Aside0 (Below w.heap.size w wc))
 case first =>
  have H := HC2.out
  clear HC2
  replace H := Option.bind_eq_some_iff.mp H
  obtain ⟨t563,A30,H⟩ := H
  replace H : (if t563 = true then (batonlaw03_SnappyAny.j0 k l0 true) else ((batonlaw03_awake.f k).bind fun t564=>(batonlaw03_SnappyAny.j0 k l0 (!t564)))) = some r := H
  have A3 := Aside0.mk A30
  clear A30
  by_cases c4 : t563 = true
  ·subst c4
   have H1 : (batonlaw03_SnappyAny.j0 k l0 true) = some r := by rw [if_pos rfl] at H;exact H
   clear H
   have H := H1
   clear H1
   have H' := Aside0.mk H
   clear H
   go_wp2_with (first|((with_reducible refine gate_callee (f := 19) rfl ?_);refine goesL_ (some 13) rfl rfl Try.func19 q9_ rfl #[.slice A0 l0.length c0] rfl q0_ ?_;(with_reducible refine (batonlaw03_long.calls k _ _ l0 true _ ?side1 ?side2 A3.out).mono ?_);(case side1=>repeat (first|exact (Kd.C_below HR0.out HB.out)|(with_reducible refine Kd.C_alloc ?_ _)|(with_reducible refine Kd.C_drewN ?_ _)|(with_reducible refine Kd.C_drew ?_)));(case side2=>exact HC0.out);rintro e w5 ⟨rfl,hb⟩;refine ⟨_,rfl,?_⟩;have n0_ := Aside0.mk (below_step (bl_) hb);clear HB;have HB := n0_;clear n0_;(try clear hb);(try clear hb2);(try clear hk);(try clear hi)))
   go_meet
   case rel=>exact ⟨_,(true),q4_,H',⟨q50_⟩,⟨bl_⟩⟩
  ·replace c4 := Bool.eq_false_iff.mpr c4
   subst c4
   have H1 : ((batonlaw03_awake.f k).bind fun t564=>(batonlaw03_SnappyAny.j0 k l0 (!t564))) = some r := by rw [if_neg (show ¬ (false = true) by decide)] at H;exact H
   clear H
   have H := H1
   clear H1
   replace H := Option.bind_eq_some_iff.mp H
   obtain ⟨t564,A60,H⟩ := H
   replace H : (batonlaw03_SnappyAny.j0 k l0 (!t564)) = some r := H
   have A6 := Aside0.mk A60
   clear A60
   have H' := Aside0.mk H
   clear H
   go_wp2_with (first|((with_reducible refine gate_callee (f := 19) rfl ?_);refine goesL_ (some 13) rfl rfl Try.func19 q9_ rfl #[.slice A0 l0.length c0] rfl q0_ ?_;(with_reducible refine (batonlaw03_long.calls k _ _ l0 false _ ?side1 ?side2 A3.out).mono ?_);(case side1=>repeat (first|exact (Kd.C_below HR0.out HB.out)|(with_reducible refine Kd.C_alloc ?_ _)|(with_reducible refine Kd.C_drewN ?_ _)|(with_reducible refine Kd.C_drew ?_)));(case side2=>exact HC0.out);rintro e w7 ⟨rfl,hb⟩;refine ⟨_,rfl,?_⟩;have n0_ := Aside0.mk (below_step (bl_) hb);clear HB;have HB := n0_;clear n0_;(try clear hb);(try clear hb2);(try clear hk);(try clear hi))|(go_at_call 12;(with_reducible refine (batonlaw03_awake.calls k  t564 _ A6.out).mono ?_);rintro e w8 ⟨rfl,hb⟩;have n0_ := Aside0.mk (below_step (bl_) hb);clear HB;have HB := n0_;clear n0_;(try clear hb);(try clear hb2);(try clear hk);(try clear hi)))
   go_meet
   case rel=>exact ⟨_,(!t564),q4_,H',⟨q50_⟩,⟨bl_⟩⟩
 case rest =>
  clear HC2
  try clear c1
  try clear p2
  try clear c4
  obtain ⟨kq,x17_1,rfl,HA,HJ1,HB⟩ := hcut
  cases kq with
  | zero=>exact absurd HA.out (by simp [batonlaw03_SnappyAny.j0])
  | succ kj1 =>
   have H := HA.out
   clear HA
   simp only [batonlaw03_SnappyAny.j0] at H
   by_cases c9 : x17_1 = true
   ·subst c9
    have H1 : ((batonlaw03_awake.f kj1).bind fun t565=>(some t565)) = some r := by rw [if_pos rfl] at H;exact H
    clear H
    have H := H1
    clear H1
    replace H := Option.bind_eq_some_iff.mp H
    obtain ⟨t565,A100,H⟩ := H
    replace H : (some t565) = some r := H
    have A10 := Aside0.mk A100
    clear A100
    obtain rfl := Option.some.inj H
    go_wp2_with (first|((with_reducible refine gate_callee (f := 12) rfl ?_);refine goesL_ (some 18) rfl rfl Try.func12 q9_ rfl #[] rfl q0_ ?_;(with_reducible refine (batonlaw03_awake.calls kj1  t565 _ A10.out).mono ?_);rintro e w11 ⟨rfl,hb⟩;refine ⟨_,rfl,?_⟩;have n0_ := Aside0.mk (below_step (bl_) hb);clear HB;have HB := n0_;clear n0_;(try clear hb);(try clear hb2);(try clear hk);(try clear hi)))
    go_ret
    exact ⟨q1_,bl_⟩
   ·replace c9 := Bool.eq_false_iff.mpr c9
    subst c9
    have H1 : ((batonlaw03_given.f kj1 l0).bind fun t566=>((snappy_Expand.f kj1 t566 65536).bind fun bt569=>((snappy_Write.f kj1 t566).bind fun bt571=>(if bt569.2 = 0 then (batonlaw03_SnappyAny.j1 kj1 l0 bt569.1 bt569.2 bt571.1 bt571.2 (bt571.2 != 0)) else (batonlaw03_SnappyAny.j1 kj1 l0 bt569.1 bt569.2 bt571.1 bt571.2 true))))) = some r := by rw [if_neg (show ¬ (false = true) by decide)] at H;exact H
    clear H
    have H := H1
    clear H1
    replace H := Option.bind_eq_some_iff.mp H
    obtain ⟨t566,A120,H⟩ := H
    replace H : ((snappy_Expand.f kj1 t566 65536).bind fun bt569=>((snappy_Write.f kj1 t566).bind fun bt571=>(if bt569.2 = 0 then (batonlaw03_SnappyAny.j1 kj1 l0 bt569.1 bt569.2 bt571.1 bt571.2 (bt571.2 != 0)) else (batonlaw03_SnappyAny.j1 kj1 l0 bt569.1 bt569.2 bt571.1 bt571.2 true)))) = some r := H
    have A12 := Aside0.mk A120
    clear A120
    replace H := Option.bind_eq_some_iff.mp H
    obtain ⟨⟨t569,t570⟩,A130,H⟩ := H
    replace H : ((snappy_Write.f kj1 t566).bind fun bt571=>(if t570 = 0 then (batonlaw03_SnappyAny.j1 kj1 l0 t569 t570 bt571.1 bt571.2 (bt571.2 != 0)) else (batonlaw03_SnappyAny.j1 kj1 l0 t569 t570 bt571.1 bt571.2 true))) = some r := H
    have A13 := Aside0.mk A130
    clear A130
    replace H := Option.bind_eq_some_iff.mp H
    obtain ⟨⟨t571,t572⟩,A140,H⟩ := H
    replace H : (if t570 = 0 then (batonlaw03_SnappyAny.j1 kj1 l0 t569 t570 t571 t572 (t572 != 0)) else (batonlaw03_SnappyAny.j1 kj1 l0 t569 t570 t571 t572 true)) = some r := H
    have A14 := Aside0.mk A140
    clear A140
    have HC15 := Aside0.mk H
    clear H
    go_upto_region 6 with (first|((with_reducible refine gate_callee (f := 20) rfl ?_);refine goesL_ (some 20) rfl rfl Try.func20 q9_ rfl #[.slice A0 l0.length c0] rfl q0_ ?_;(with_reducible refine (batonlaw03_given.calls kj1 _ _ l0 t566 _ ?side1 ?side2 A12.out).mono ?_);(case side1=>repeat (first|exact (Kd.C_below HR0.out HB.out)|(with_reducible refine Kd.C_alloc ?_ _)|(with_reducible refine Kd.C_drewN ?_ _)|(with_reducible refine Kd.C_drew ?_)));(case side2=>exact HC0.out);rintro e w16 ⟨v567,rfl,ho0,hb⟩;refine ⟨_,rfl,?_⟩;have n0_ := Aside0.mk (Kd.R_lower ho0 (below_size (bl_)));have n1_ := Aside0.mk (below_step (bl_) hb);clear HB;have HO568 := n0_;have HB := n1_;clear n0_ n1_;(try clear hb);(try clear hb2);(try clear hk);(try clear hi);(try clear ho0);obtain ⟨Ao17,co17,eo17⟩ := Kd.R_slice HO568.out;subst eo17)|((with_reducible refine gate_callee (f := 17) rfl ?_);refine goesL_ (some 23) rfl rfl Try.func17 q9_ rfl #[.slice Ao17 t566.length co17,.int .i64 65536] rfl q0_ ?_;(with_reducible refine (snappy_Expand.calls kj1 _ _ t566 65536 t569 t570 _ ?side1 ?side2 A13.out).mono ?_);(case side1=>repeat (first|exact (Kd.R_reads' HO568.out).2.2|(with_reducible refine Kd.C_alloc ?_ _)|(with_reducible refine Kd.C_drewN ?_ _)|(with_reducible refine Kd.C_drew ?_)));(case side2=>exact (Kd.R_reads' HO568.out).2.1);rintro e w18 ⟨rfl,hb⟩;refine ⟨_,rfl,?_⟩;have n0_ := Aside0.mk (Kd.R_below (by (with_reducible repeat (first|apply Kd.R_alloc|apply Kd.R_drewN|apply Kd.R_drew));exact HO568.out) hb);have n1_ := Aside0.mk (below_step (bl_) hb);clear HO568;clear HB;have HO568 := n0_;have HB := n1_;clear n0_ n1_;(try clear hb);(try clear hb2);(try clear hk);(try clear hi))|((with_reducible refine gate_callee (f := 16) rfl ?_);refine goesL_ (some 28) rfl rfl Try.func16 q9_ rfl #[.slice Ao17 t566.length co17] rfl q0_ ?_;(with_reducible refine (snappy_Write.calls kj1 _ _ t566 t571 t572 _ ?side1 ?side2 A14.out).mono ?_);(case side1=>repeat (first|exact (Kd.R_reads' HO568.out).2.2|(with_reducible refine Kd.C_alloc ?_ _)|(with_reducible refine Kd.C_drewN ?_ _)|(with_reducible refine Kd.C_drew ?_)));(case side2=>exact (Kd.R_reads' HO568.out).2.1);rintro e w19 ⟨rfl,hb⟩;refine ⟨_,rfl,?_⟩;have n0_ := Aside0.mk (Kd.R_below (by (with_reducible repeat (first|apply Kd.R_alloc|apply Kd.R_drewN|apply Kd.R_drew));exact HO568.out) hb);have n1_ := Aside0.mk (below_step (bl_) hb);clear HO568;clear HB;have HO568 := n0_;have HB := n1_;clear n0_ n1_;(try clear hb);(try clear hb2);(try clear hk);(try clear hi)))
    (try simp only [Act.put,List.setIfInBounds_toArray,List.set_cons_zero,List.set_cons_succ])
    go_cut [36] (fun v36 wc=>∃ (kq : Nat) (x36_14 : Bool),v36 = .bool x36_14 ∧ Aside0 (batonlaw03_SnappyAny.j1 kq l0 t569 t570 t571 t572 x36_14 = some r) ∧ Aside0 (kq ≤ kj1) ∧ Aside0 (Below w.heap.size w wc))
    case first =>
     have H := HC15.out
     clear HC15
     by_cases c20 : t570 = 0
     ·rw [if_pos c20] at H
      have c20b0 : (t570 == 0) = true := beq_iff_eq.mpr c20
      have c20b1 : (t570 != 0) = false := bne_eq_false_iff_eq.mpr c20
      clear c20
      (first|rw [c20b0]|(simp only [i64_w,i32_w];rw [c20b0])|skip)
      have H' := Aside0.mk H
      clear H
      go_wp2
      go_meet
      case rel=>exact ⟨_,((t572 != 0)),q4_,H',⟨q111_⟩,⟨bl_⟩⟩
     ·rw [if_neg c20] at H
      have c20b0 : (t570 == 0) = false := beq_eq_false_iff_ne.mpr c20
      have c20b1 : (t570 != 0) = true := bne_iff_ne.mpr c20
      (first|rw [c20b0]|(simp only [i64_w,i32_w];rw [c20b0])|skip)
      have H' := Aside0.mk H
      clear H
      go_wp2
      go_meet
      case rel=>exact ⟨_,(true),q4_,H',⟨q111_⟩,⟨bl_⟩⟩
    case rest =>
     clear HC15
     try clear c1
     try clear c2
     try clear p2
     try clear c4
     try clear c9
     try clear c11
     try clear c12
     try clear c16
     try clear c17
     try clear c19
     try clear c20
     try clear c20b0
     try clear c20b1
     try clear p2
     obtain ⟨kq,x36_14,rfl,HA,HJ14,HB⟩ := hcut
     cases kq with
     | zero=>exact absurd HA.out (by simp [batonlaw03_SnappyAny.j1])
     | succ kj14 =>
      have H := HA.out
      clear HA
      simp only [batonlaw03_SnappyAny.j1] at H
      by_cases c21 : x36_14 = true
      ·subst c21
       have H1 : (if t570 = t572 then (if t569.toList = ([] : List UInt8) then (some (t571.toList == ([] : List UInt8))) else (some false)) else (some false)) = some r := by rw [if_pos rfl] at H;exact H
       clear H
       have H := H1
       clear H1
       by_cases c22 : t570 = t572
       ·rw [if_pos c22] at H
        have c22b0 : (t570 == t572) = true := beq_iff_eq.mpr c22
        have c22b1 : (t570 != t572) = false := bne_eq_false_iff_eq.mpr c22
        clear c22
        by_cases c23 : t569.toList = ([] : List UInt8)
        ·rw [if_pos c23] at H
         have c23b0 : (t569.toList == ([] : List UInt8)) = true := beq_iff_eq.mpr c23
         have c23b1 : (t569.toList != ([] : List UInt8)) = false := bne_eq_false_iff_eq.mpr c23
         clear c23
         obtain rfl := Option.some.inj H
         go_wp2
         go_ret
         exact ⟨q1_,bl_⟩
        ·rw [if_neg c23] at H
         have c23b0 : (t569.toList == ([] : List UInt8)) = false := beq_eq_false_iff_ne.mpr c23
         have c23b1 : (t569.toList != ([] : List UInt8)) = true := bne_iff_ne.mpr c23
         obtain rfl := Option.some.inj H
         go_wp2
         go_ret
         exact ⟨q1_,bl_⟩
       ·rw [if_neg c22] at H
        have c22b0 : (t570 == t572) = false := beq_eq_false_iff_ne.mpr c22
        have c22b1 : (t570 != t572) = true := bne_iff_ne.mpr c22
        obtain rfl := Option.some.inj H
        go_wp2
        go_ret
        exact ⟨q1_,bl_⟩
      ·replace c21 := Bool.eq_false_iff.mpr c21
       subst c21
       have H1 : ((snappy_Decode.f kj14 t571 65536).bind fun bt573=>((snappy_Parts.f kj14 t571).bind fun bt575=>(if bt573.2 = 0 then (if bt573.1.toList = t569.toList then (if bt575.2 = 0 then ((batonlaw03_same.f kj14 bt575.1 l0).bind fun t579=>(some t579)) else (some false)) else (some false)) else (some false)))) = some r := by rw [if_neg (show ¬ (false = true) by decide)] at H;exact H
       clear H
       have H := H1
       clear H1
       replace H := Option.bind_eq_some_iff.mp H
       obtain ⟨⟨t573,t574⟩,A240,H⟩ := H
       replace H : ((snappy_Parts.f kj14 t571).bind fun bt575=>(if t574 = 0 then (if t573.toList = t569.toList then (if bt575.2 = 0 then ((batonlaw03_same.f kj14 bt575.1 l0).bind fun t579=>(some t579)) else (some false)) else (some false)) else (some false))) = some r := H
       have A24 := Aside0.mk A240
       clear A240
       replace H := Option.bind_eq_some_iff.mp H
       obtain ⟨⟨t575,t576⟩,A250,H⟩ := H
       replace H : (if t574 = 0 then (if t573.toList = t569.toList then (if t576 = 0 then ((batonlaw03_same.f kj14 t575 l0).bind fun t579=>(some t579)) else (some false)) else (some false)) else (some false)) = some r := H
       have A25 := Aside0.mk A250
       clear A250
       by_cases c26 : t574 = 0
       ·rw [if_pos c26] at H
        have c26b0 : (t574 == 0) = true := beq_iff_eq.mpr c26
        have c26b1 : (t574 != 0) = false := bne_eq_false_iff_eq.mpr c26
        clear c26
        by_cases c27 : t573.toList = t569.toList
        ·rw [if_pos c27] at H
         have c27b0 : (t573.toList == t569.toList) = true := beq_iff_eq.mpr c27
         have c27b1 : (t573.toList != t569.toList) = false := bne_eq_false_iff_eq.mpr c27
         clear c27
         by_cases c28 : t576 = 0
         ·rw [if_pos c28] at H
          have c28b0 : (t576 == 0) = true := beq_iff_eq.mpr c28
          have c28b1 : (t576 != 0) = false := bne_eq_false_iff_eq.mpr c28
          clear c28
          replace H := Option.bind_eq_some_iff.mp H
          obtain ⟨t579,A290,H⟩ := H
          replace H : (some t579) = some r := H
          have A29 := Aside0.mk A290
          clear A290
          obtain rfl := Option.some.inj H
          go_wp2_with (first|((with_reducible refine gate_callee (f := 13) rfl ?_);refine goesL_ (some 50) rfl rfl Try.func13 q9_ rfl #[.string t571,.int .i64 65536] rfl q0_ ?_;(with_reducible refine (snappy_Decode.calls kj14 t571 65536 t573 t574 _ A24.out).mono ?_);rintro e w30 ⟨rfl,hb⟩;refine ⟨_,rfl,?_⟩;have n0_ := Aside0.mk (below_step (bl_) hb);clear HB;have HB := n0_;clear n0_;(try clear hb);(try clear hb2);(try clear hk);(try clear hi))|((with_reducible refine gate_callee (f := 30) rfl ?_);refine goesL_ (some 55) rfl rfl Try.func30 q9_ rfl #[.string t571] rfl q0_ ?_;(with_reducible refine (snappy_Parts.calls kj14 t571 t575 t576 _ A25.out).mono ?_);rintro e w31 ⟨v577,rfl,ho0,hb⟩;refine ⟨_,rfl,?_⟩;have n0_ := Aside0.mk (Kd.R_lower ho0 (below_size (bl_)));have n1_ := Aside0.mk (below_step (bl_) hb);clear HB;have HO578 := n0_;have HB := n1_;clear n0_ n1_;(try clear hb);(try clear hb2);(try clear hk);(try clear hi);(try clear ho0);obtain ⟨Ao32,co32,eo32⟩ := Kd.R_slice HO578.out;subst eo32)|(go_at_call 23;(with_reducible refine (batonlaw03_same.calls kj14 _ _ t575 _ _ l0 t579 _ ?side1 ?side2 ?side3 ?side4 A29.out).mono ?_);(case side1=>repeat (first|exact (Kd.R_reads' HO578.out).2.2|(with_reducible refine Kd.C_alloc ?_ _)|(with_reducible refine Kd.C_drewN ?_ _)|(with_reducible refine Kd.C_drew ?_)));(case side2=>exact (Kd.R_reads' HO578.out).2.1);(case side3=>repeat (first|exact (Kd.C_below HR0.out HB.out)|(with_reducible refine Kd.C_alloc ?_ _)|(with_reducible refine Kd.C_drewN ?_ _)|(with_reducible refine Kd.C_drew ?_)));(case side4=>exact HC0.out);rintro e w' ⟨rfl,⟨nd,rfl⟩⟩))
          go_ret
          exact ⟨q1_,bl_⟩
         ·rw [if_neg c28] at H
          have c28b0 : (t576 == 0) = false := beq_eq_false_iff_ne.mpr c28
          have c28b1 : (t576 != 0) = true := bne_iff_ne.mpr c28
          obtain rfl := Option.some.inj H
          go_wp2_with (first|((with_reducible refine gate_callee (f := 13) rfl ?_);refine goesL_ (some 50) rfl rfl Try.func13 q9_ rfl #[.string t571,.int .i64 65536] rfl q0_ ?_;(with_reducible refine (snappy_Decode.calls kj14 t571 65536 t573 t574 _ A24.out).mono ?_);rintro e w33 ⟨rfl,hb⟩;refine ⟨_,rfl,?_⟩;have n0_ := Aside0.mk (below_step (bl_) hb);clear HB;have HB := n0_;clear n0_;(try clear hb);(try clear hb2);(try clear hk);(try clear hi))|((with_reducible refine gate_callee (f := 30) rfl ?_);refine goesL_ (some 55) rfl rfl Try.func30 q9_ rfl #[.string t571] rfl q0_ ?_;(with_reducible refine (snappy_Parts.calls kj14 t571 t575 t576 _ A25.out).mono ?_);rintro e w34 ⟨v577,rfl,ho0,hb⟩;refine ⟨_,rfl,?_⟩;have n0_ := Aside0.mk (Kd.R_lower ho0 (below_size (bl_)));have n1_ := Aside0.mk (below_step (bl_) hb);clear HB;have HO578 := n0_;have HB := n1_;clear n0_ n1_;(try clear hb);(try clear hb2);(try clear hk);(try clear hi);(try clear ho0)))
          go_ret
          exact ⟨q1_,bl_⟩
        ·rw [if_neg c27] at H
         have c27b0 : (t573.toList == t569.toList) = false := beq_eq_false_iff_ne.mpr c27
         have c27b1 : (t573.toList != t569.toList) = true := bne_iff_ne.mpr c27
         obtain rfl := Option.some.inj H
         go_wp2_with (first|((with_reducible refine gate_callee (f := 13) rfl ?_);refine goesL_ (some 50) rfl rfl Try.func13 q9_ rfl #[.string t571,.int .i64 65536] rfl q0_ ?_;(with_reducible refine (snappy_Decode.calls kj14 t571 65536 t573 t574 _ A24.out).mono ?_);rintro e w35 ⟨rfl,hb⟩;refine ⟨_,rfl,?_⟩;have n0_ := Aside0.mk (below_step (bl_) hb);clear HB;have HB := n0_;clear n0_;(try clear hb);(try clear hb2);(try clear hk);(try clear hi))|((with_reducible refine gate_callee (f := 30) rfl ?_);refine goesL_ (some 55) rfl rfl Try.func30 q9_ rfl #[.string t571] rfl q0_ ?_;(with_reducible refine (snappy_Parts.calls kj14 t571 t575 t576 _ A25.out).mono ?_);rintro e w36 ⟨v577,rfl,ho0,hb⟩;refine ⟨_,rfl,?_⟩;have n0_ := Aside0.mk (Kd.R_lower ho0 (below_size (bl_)));have n1_ := Aside0.mk (below_step (bl_) hb);clear HB;have HO578 := n0_;have HB := n1_;clear n0_ n1_;(try clear hb);(try clear hb2);(try clear hk);(try clear hi);(try clear ho0)))
         go_ret
         exact ⟨q1_,bl_⟩
       ·rw [if_neg c26] at H
        have c26b0 : (t574 == 0) = false := beq_eq_false_iff_ne.mpr c26
        have c26b1 : (t574 != 0) = true := bne_iff_ne.mpr c26
        obtain rfl := Option.some.inj H
        go_wp2_with (first|((with_reducible refine gate_callee (f := 13) rfl ?_);refine goesL_ (some 50) rfl rfl Try.func13 q9_ rfl #[.string t571,.int .i64 65536] rfl q0_ ?_;(with_reducible refine (snappy_Decode.calls kj14 t571 65536 t573 t574 _ A24.out).mono ?_);rintro e w37 ⟨rfl,hb⟩;refine ⟨_,rfl,?_⟩;have n0_ := Aside0.mk (below_step (bl_) hb);clear HB;have HB := n0_;clear n0_;(try clear hb);(try clear hb2);(try clear hk);(try clear hi))|((with_reducible refine gate_callee (f := 30) rfl ?_);refine goesL_ (some 55) rfl rfl Try.func30 q9_ rfl #[.string t571] rfl q0_ ?_;(with_reducible refine (snappy_Parts.calls kj14 t571 t575 t576 _ A25.out).mono ?_);rintro e w38 ⟨v577,rfl,ho0,hb⟩;refine ⟨_,rfl,?_⟩;have n0_ := Aside0.mk (Kd.R_lower ho0 (below_size (bl_)));have n1_ := Aside0.mk (below_step (bl_) hb);clear HB;have HO578 := n0_;have HB := n1_;clear n0_ n1_;(try clear hb);(try clear hb2);(try clear hk);(try clear hi);(try clear ho0)))
        go_ret
        exact ⟨q1_,bl_⟩

/-- THE ONE PURE STATEMENT of batonlaw03_SnappyAny. -/
def batonlaw03_SnappyAny.Pure : Prop := ∀ (l0 : List (S72)), l0.length ≤ maxLen → l0.length * 40 ≤ 140737488351232 → (∀ x ∈ l0, x.f1.size ≤ 140737488351232 ∧ (Lit.int .i64 x.f2).wf = true ∧ (Lit.int .i64 x.f3).wf = true) → ∃ k, batonlaw03_SnappyAny.f k l0 = some true

end Go.Proofs.Ythcjcmgdblhhfaa.PV

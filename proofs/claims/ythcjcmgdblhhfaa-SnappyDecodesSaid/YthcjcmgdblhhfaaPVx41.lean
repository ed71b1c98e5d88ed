/- The machine side of these statements: what each Go function computes as a plain function, and that its call computes just that. Written by a program of mine (wip/drive.py). No conditions. -/
import Derived.Test.YthcjcmgdblhhfaaPVx0
import Derived.Test.YthcjcmgdblhhfaaPVx38
import Derived.Test.YthcjcmgdblhhfaaPVx40
namespace Go.Proofs.Ythcjcmgdblhhfaa.PV
open Go.RowKit Go.Proofs.YthcjcmgdblhhfaaW.PrintWords Go.Proofs.YthcjcmgdblhhfaaW.PrintLast Go.Proofs.YthcjcmgdblhhfaaW.PrintMore
attribute [local go_sem] max2_int min2_int max_two min_two max_three min_three max_four min_four   -- for this text's walks alone
set_option linter.unusedVariables false
set_option linter.unusedSimpArgs false

/-! ### batonref03_Decode: function 29 -/
mutual
def batonref03_Decode.j0 : Nat → ByteArray → Int → Bool → Option (ByteArray × Int)
 | 0,_,_,_=>none
 | k + 1,x0,x6,x31=>if x31 = true then (some ((⟨#[]⟩ : ByteArray),40)) else ((batonref01_Uvarint.f k x0 0).bind fun bt491=>(batonref03_Decode.l0 k x0 x6 bt491.2.1 (⟨#[]⟩ : ByteArray)))
def batonref03_Decode.l0 : Nat → ByteArray → Int → Int → ByteArray → Option (ByteArray × Int)
 | 0,_,_,_,_=>none
 | k + 1,x0,x6,x9,x11=>if x9 < (x0.size : Int) then (if 0 ≤ x9 then (if x9 ≤ (x0.size : Int) then ((batonref03_element.f k (x0.extract (x9 : Int).toNat x0.size)).bind fun bt494=>(if bt494.2.2.2.2 < 0 then (some ((⟨#[]⟩ : ByteArray),8)) else (if bt494.1 = true then (if bt494.2.2.1 < 1 then (batonref03_Decode.j2 k x0 x6 (wrap64 (x9 + bt494.2.2.2.2)) x11 true bt494.1 bt494.2.1 bt494.2.2.1 bt494.2.2.2.1) else (if bt494.2.2.1 > (x11.size : Int) then (batonref03_Decode.j2 k x0 x6 (wrap64 (x9 + bt494.2.2.2.2)) x11 true bt494.1 bt494.2.1 bt494.2.2.1 bt494.2.2.2.1) else (batonref03_Decode.j2 k x0 x6 (wrap64 (x9 + bt494.2.2.2.2)) x11 (decide ((IntKind.u64.wrap (wrap64 ((wrap64 ((x11.size : Int) + (bt494.2.1.size : Int))) + bt494.2.2.2.1))) > x6)) bt494.1 bt494.2.1 bt494.2.2.1 bt494.2.2.2.1))) else (batonref03_Decode.j2 k x0 x6 (wrap64 (x9 + bt494.2.2.2.2)) x11 (decide ((IntKind.u64.wrap (wrap64 ((wrap64 ((x11.size : Int) + (bt494.2.1.size : Int))) + bt494.2.2.2.1))) > x6)) bt494.1 bt494.2.1 bt494.2.2.1 bt494.2.2.2.1)))) else (none)) else (none)) else (if (IntKind.u64.wrap ((x11.size : Int))) < x6 then (some ((⟨#[]⟩ : ByteArray),4)) else (some (x11,0)))
def batonref03_Decode.j2 : Nat → ByteArray → Int → Int → ByteArray → Bool → Bool → ByteArray → Int → Int → Option (ByteArray × Int)
 | 0,_,_,_,_,_,_,_,_,_=>none
 | k + 1,x0,x6,x9,x11,x81,x500000,x500001,x500002,x500003=>if x81 = true then (some ((⟨#[]⟩ : ByteArray),4)) else (if x11.size + x500001.size ≤ 9223372036854775807 then (batonref03_Decode.l1 k x0 x6 x9 (x11 ++ x500001) 0 x500000 x500001 x500002 x500003) else (none))
def batonref03_Decode.l1 : Nat → ByteArray → Int → Int → ByteArray → Int → Bool → ByteArray → Int → Int → Option (ByteArray × Int)
 | 0,_,_,_,_,_,_,_,_,_=>none
 | k + 1,x0,x6,x9,x11,x14,x500000,x500001,x500002,x500003=>if x14 < x500003 then (if 0 ≤ (wrap64 ((x11.size : Int) - x500002)) then (if (wrap64 ((x11.size : Int) - x500002)) ≤ (wrap64 ((wrap64 ((x11.size : Int) - x500002)) + 1)) then (if (wrap64 ((wrap64 ((x11.size : Int) - x500002)) + 1)) ≤ (x11.size : Int) then (if x11.size + (x11.extract ((wrap64 ((x11.size : Int) - x500002)) : Int).toNat ((wrap64 ((wrap64 ((x11.size : Int) - x500002)) + 1)) : Int).toNat).size ≤ 9223372036854775807 then (batonref03_Decode.l1 k x0 x6 x9 (x11 ++ (x11.extract ((wrap64 ((x11.size : Int) - x500002)) : Int).toNat ((wrap64 ((wrap64 ((x11.size : Int) - x500002)) + 1)) : Int).toNat)) (wrap64 (x14 + 1)) x500000 x500001 x500002 x500003) else (none)) else (none)) else (none)) else (none)) else (batonref03_Decode.l0 k x0 x6 x9 x11)
end
def batonref03_Decode.f (k : Nat) (a0 : ByteArray) (a1 : Int) : Option (ByteArray × Int) := (batonref03_Size.f k a0).bind fun bt489 => (if bt489.2 = 0 then (if a1 < 0 then (batonref03_Decode.j0 k a0 bt489.1 true) else (batonref03_Decode.j0 k a0 bt489.1 (decide (bt489.1 > (IntKind.u64.wrap (a1)))))) else (some ((⟨#[]⟩ : ByteArray), bt489.2)))
theorem batonref03_Decode.mono_l : ∀ k, (∀ y0 y1 y2, LeO (batonref03_Decode.j0 k y0 y1 y2) (batonref03_Decode.j0 (k + 1) y0 y1 y2)) ∧ (∀ y0 y1 y2 y3, LeO (batonref03_Decode.l0 k y0 y1 y2 y3) (batonref03_Decode.l0 (k + 1) y0 y1 y2 y3)) ∧ (∀ y0 y1 y2 y3 y4 y5 y6 y7 y8, LeO (batonref03_Decode.j2 k y0 y1 y2 y3 y4 y5 y6 y7 y8) (batonref03_Decode.j2 (k + 1) y0 y1 y2 y3 y4 y5 y6 y7 y8)) ∧ (∀ y0 y1 y2 y3 y4 y5 y6 y7 y8, LeO (batonref03_Decode.l1 k y0 y1 y2 y3 y4 y5 y6 y7 y8) (batonref03_Decode.l1 (k + 1) y0 y1 y2 y3 y4 y5 y6 y7 y8))
 | 0=>⟨fun _ _ _ r h=>by simp [batonref03_Decode.j0] at h,fun _ _ _ _ r h=>by simp [batonref03_Decode.l0] at h,fun _ _ _ _ _ _ _ _ _ r h=>by simp [batonref03_Decode.j2] at h,fun _ _ _ _ _ _ _ _ _ r h=>by simp [batonref03_Decode.l1] at h⟩
 | k + 1=>by
  obtain ⟨ih0,ih1,ih2,ih3⟩ := batonref03_Decode.mono_l k
  refine ⟨?_,?_,?_,?_⟩
  ·intro y0 y1 y2
   unfold batonref03_Decode.j0
   repeat' first
   | (with_reducible exact ih0 _ _ _)
   | (with_reducible exact ih1 _ _ _ _)
   | (with_reducible exact ih2 _ _ _ _ _ _ _ _ _)
   | (with_reducible exact ih3 _ _ _ _ _ _ _ _ _)
   | (with_reducible exact batonref01_Uvarint.mono _ _ _)
   | (with_reducible exact batonref03_Size.mono _ _)
   | (with_reducible exact batonref03_element.mono _ _)
   | (with_reducible exact LeO.refl _)
   | (with_reducible exact LeO.none _)
   | (with_reducible refine LeO.ite ?_ ?_)
   | (with_reducible refine LeO.bind ?_ (fun _=>?_))
   | exact ih0 _ _ _
   | exact ih1 _ _ _ _
   | exact ih2 _ _ _ _ _ _ _ _ _
   | exact ih3 _ _ _ _ _ _ _ _ _
   | exact batonref01_Uvarint.mono _ _ _
   | exact batonref03_Size.mono _ _
   | exact batonref03_element.mono _ _
   | exact LeO.none _
   | refine LeO.ite ?_ ?_
   | refine LeO.bind ?_ (fun _=>?_)
  ·intro y0 y1 y2 y3
   unfold batonref03_Decode.l0
   repeat' first
   | (with_reducible exact ih0 _ _ _)
   | (with_reducible exact ih1 _ _ _ _)
   | (with_reducible exact ih2 _ _ _ _ _ _ _ _ _)
   | (with_reducible exact ih3 _ _ _ _ _ _ _ _ _)
   | (with_reducible exact batonref01_Uvarint.mono _ _ _)
   | (with_reducible exact batonref03_Size.mono _ _)
   | (with_reducible exact batonref03_element.mono _ _)
   | (with_reducible exact LeO.refl _)
   | (with_reducible exact LeO.none _)
   | (with_reducible refine LeO.ite ?_ ?_)
   | (with_reducible refine LeO.bind ?_ (fun _=>?_))
   | exact ih0 _ _ _
   | exact ih1 _ _ _ _
   | exact ih2 _ _ _ _ _ _ _ _ _
   | exact ih3 _ _ _ _ _ _ _ _ _
   | exact batonref01_Uvarint.mono _ _ _
   | exact batonref03_Size.mono _ _
   | exact batonref03_element.mono _ _
   | exact LeO.none _
   | refine LeO.ite ?_ ?_
   | refine LeO.bind ?_ (fun _=>?_)
  ·intro y0 y1 y2 y3 y4 y5 y6 y7 y8
   unfold batonref03_Decode.j2
   repeat' first
   | (with_reducible exact ih0 _ _ _)
   | (with_reducible exact ih1 _ _ _ _)
   | (with_reducible exact ih2 _ _ _ _ _ _ _ _ _)
   | (with_reducible exact ih3 _ _ _ _ _ _ _ _ _)
   | (with_reducible exact batonref01_Uvarint.mono _ _ _)
   | (with_reducible exact batonref03_Size.mono _ _)
   | (with_reducible exact batonref03_element.mono _ _)
   | (with_reducible exact LeO.refl _)
   | (with_reducible exact LeO.none _)
   | (with_reducible refine LeO.ite ?_ ?_)
   | (with_reducible refine LeO.bind ?_ (fun _=>?_))
   | exact ih0 _ _ _
   | exact ih1 _ _ _ _
   | exact ih2 _ _ _ _ _ _ _ _ _
   | exact ih3 _ _ _ _ _ _ _ _ _
   | exact batonref01_Uvarint.mono _ _ _
   | exact batonref03_Size.mono _ _
   | exact batonref03_element.mono _ _
   | exact LeO.none _
   | refine LeO.ite ?_ ?_
   | refine LeO.bind ?_ (fun _=>?_)
  ·intro y0 y1 y2 y3 y4 y5 y6 y7 y8
   unfold batonref03_Decode.l1
   repeat' first
   | (with_reducible exact ih0 _ _ _)
   | (with_reducible exact ih1 _ _ _ _)
   | (with_reducible exact ih2 _ _ _ _ _ _ _ _ _)
   | (with_reducible exact ih3 _ _ _ _ _ _ _ _ _)
   | (with_reducible exact batonref01_Uvarint.mono _ _ _)
   | (with_reducible exact batonref03_Size.mono _ _)
   | (with_reducible exact batonref03_element.mono _ _)
   | (with_reducible exact LeO.refl _)
   | (with_reducible exact LeO.none _)
   | (with_reducible refine LeO.ite ?_ ?_)
   | (with_reducible refine LeO.bind ?_ (fun _=>?_))
   | exact ih0 _ _ _
   | exact ih1 _ _ _ _
   | exact ih2 _ _ _ _ _ _ _ _ _
   | exact ih3 _ _ _ _ _ _ _ _ _
   | exact batonref01_Uvarint.mono _ _ _
   | exact batonref03_Size.mono _ _
   | exact batonref03_element.mono _ _
   | exact LeO.none _
   | refine LeO.ite ?_ ?_
   | refine LeO.bind ?_ (fun _=>?_)
theorem batonref03_Decode.mono : ∀ a0 a1 k, LeO (batonref03_Decode.f k a0 a1) (batonref03_Decode.f (k + 1) a0 a1) := by
 intro a0 a1 k
 obtain ⟨ih0,ih1,ih2,ih3⟩ := batonref03_Decode.mono_l k
 unfold batonref03_Decode.f
 repeat' first
   | (with_reducible exact ih0 _ _ _)
   | (with_reducible exact ih1 _ _ _ _)
   | (with_reducible exact ih2 _ _ _ _ _ _ _ _ _)
   | (with_reducible exact ih3 _ _ _ _ _ _ _ _ _)
   | (with_reducible exact batonref01_Uvarint.mono _ _ _)
   | (with_reducible exact batonref03_Size.mono _ _)
   | (with_reducible exact batonref03_element.mono _ _)
   | (with_reducible exact LeO.refl _)
   | (with_reducible exact LeO.none _)
   | (with_reducible refine LeO.ite ?_ ?_)
   | (with_reducible refine LeO.bind ?_ (fun _=>?_))
   | exact ih0 _ _ _
   | exact ih1 _ _ _ _
   | exact ih2 _ _ _ _ _ _ _ _ _
   | exact ih3 _ _ _ _ _ _ _ _ _
   | exact batonref01_Uvarint.mono _ _ _
   | exact batonref03_Size.mono _ _
   | exact batonref03_element.mono _ _
   | exact LeO.none _
   | refine LeO.ite ?_ ?_
   | refine LeO.bind ?_ (fun _=>?_)
set_option maxHeartbeats 8000000 in
set_option maxRecDepth 100000 in
theorem batonref03_Decode.calls (k : Nat) (a0 : ByteArray) (a1 : Int) (r1 : ByteArray) (r2 : Int) (w : World) (h : batonref03_Decode.f k a0 a1 = some (r1, r2)) :
  Calls Try.prog 29 #[.string a0,.int .i64 a1] w fun e w'=>e = .returned (.tuple #[.string r1,.int .i64 r2]) ∧ Below w.heap.size w w' := by
 have hu72 := Try.underlying72
 have HB := Aside0.mk (Below.refl w.heap.size w)
 have H : ((batonref03_Size.f k a0).bind fun bt489=>(if bt489.2 = 0 then (if a1 < 0 then (batonref03_Decode.j0 k a0 bt489.1 true) else (batonref03_Decode.j0 k a0 bt489.1 (decide (bt489.1 > (IntKind.u64.wrap (a1)))))) else (some ((⟨#[]⟩ : ByteArray),bt489.2)))) = some (r1,r2) := h
 clear h
 replace H := Option.bind_eq_some_iff.mp H
 obtain ⟨⟨t489,t490⟩,A30,H⟩ := H
 replace H : (if t490 = 0 then (if a1 < 0 then (batonref03_Decode.j0 k a0 t489 true) else (batonref03_Decode.j0 k a0 t489 (decide (t489 > (IntKind.u64.wrap (a1)))))) else (some ((⟨#[]⟩ : ByteArray),t490))) = some (r1,r2) := H
 have A3 := Aside0.mk A30
 clear A30
 by_cases c4 : t490 = 0
 ·rw [if_pos c4] at H
  have c4b0 : (t490 == 0) = true := beq_iff_eq.mpr c4
  have c4b1 : (t490 != 0) = false := bne_eq_false_iff_eq.mpr c4
  clear c4
  have HC5 := Aside0.mk H
  clear H
  go_enter Try.func29,Try.ntmps29
  go_upto_region 4 with (first|((with_reducible refine gate_callee (f := 28) rfl ?_);refine goesL_ (some 18) rfl rfl Try.func28 q9_ rfl #[.string a0] rfl q0_ ?_;(with_reducible refine (batonref03_Size.calls k a0 t489 t490 _ A3.out).mono ?_);rintro e w' ⟨rfl,⟨nd,rfl⟩⟩;refine ⟨_,rfl,?_⟩))
  (try simp only [Act.put,List.setIfInBounds_toArray,List.set_cons_zero,List.set_cons_succ])
  go_cut [31] (fun v31 wc=>∃ (kq : Nat) (x31_4 : Bool),v31 = .bool x31_4 ∧ Aside0 (batonref03_Decode.j0 kq a0 t489 x31_4 = some (r1,r2)) ∧ Aside0 (kq ≤ k) ∧ Aside0 (Below w.heap.size w wc))
  case first =>
   have H := HC5.out
   clear HC5
   by_cases c6 : a1 < 0
   ·rw [if_pos c6] at H
    have c6b0 : decide (a1 < 0) = true := decide_eq_true c6
    clear c6
    (first|rw [c6b0]|(simp only [i64_w,i32_w];rw [c6b0])|skip)
    have H' := Aside0.mk H
    clear H
    go_wp2
    go_meet
    case rel=>exact ⟨_,(true),q4_,H',⟨q50_⟩,⟨bl_⟩⟩
   ·rw [if_neg c6] at H
    have c6b0 : decide (a1 < 0) = false := decide_eq_false c6
    clear c6
    (first|rw [c6b0]|(simp only [i64_w,i32_w];rw [c6b0])|skip)
    have H' := Aside0.mk H
    clear H
    go_wp2
    go_meet
    case rel=>exact ⟨_,(decide (t489 > (IntKind.u64.wrap (a1)))),q4_,H',⟨q50_⟩,⟨bl_⟩⟩
  case rest =>
   clear HC5
   try clear c2
   try clear p2
   try clear c4
   try clear c4b0
   try clear c4b1
   try clear c6
   try clear c6b0
   obtain ⟨kq,x31_4,rfl,HA,HJ4,HB⟩ := hcut
   cases kq with
   | zero=>exact absurd HA.out (by simp [batonref03_Decode.j0])
   | succ kj4 =>
    have H := HA.out
    clear HA
    simp only [batonref03_Decode.j0] at H
    by_cases c7 : x31_4 = true
    ·subst c7
     have H1 : (some ((⟨#[]⟩ : ByteArray),40)) = some (r1,r2) := by rw [if_pos rfl] at H;exact H
     clear H
     have H := H1
     clear H1
     simp only [Option.some.injEq,Prod.mk.injEq] at H
     obtain ⟨rfl,rfl⟩ := H
     go_wp2
     go_ret2
     exact ⟨q1_,bl_⟩
    ·replace c7 := Bool.eq_false_iff.mpr c7
     subst c7
     have H1 : ((batonref01_Uvarint.f kj4 a0 0).bind fun bt491=>(batonref03_Decode.l0 kj4 a0 t489 bt491.2.1 (⟨#[]⟩ : ByteArray))) = some (r1,r2) := by rw [if_neg (show ¬ (false = true) by decide)] at H;exact H
     clear H
     have H := H1
     clear H1
     replace H := Option.bind_eq_some_iff.mp H
     obtain ⟨⟨t491,t492,t493⟩,A80,H⟩ := H
     replace H : (batonref03_Decode.l0 kj4 a0 t489 t492 (⟨#[]⟩ : ByteArray)) = some (r1,r2) := H
     have A8 := Aside0.mk A80
     clear A80
     have H' := Aside0.mk H
     clear H
     go_wp2_with (first|((with_reducible refine gate_callee (f := 48) rfl ?_);refine goesL_ (some 34) rfl rfl Try.func48 q9_ rfl #[.string a0,.int .i64 0] rfl q0_ ?_;(with_reducible refine (batonref01_Uvarint.calls kj4 a0 0 t491 t492 t493 _ A8.out).mono ?_);rintro e w' ⟨rfl,⟨nd,rfl⟩⟩;refine ⟨_,rfl,?_⟩))
     go_loopg [9,11] kj4 (fun kq v9 v11 w'=>∃ (x9_2 : Int) (x11_2 : ByteArray),v9 = .int .i64 x9_2 ∧ v11 = .string x11_2 ∧ Aside0 (batonref03_Decode.l0 kq a0 t489 x9_2 x11_2 = some (r1,r2)) ∧ Aside0 (kq ≤ kj4) ∧ Aside0 (Below w.heap.size w w'))
     case atStart=>exact ⟨(t492),((⟨#[]⟩ : ByteArray)),q4_,q4_,H',⟨Nat.le_refl _⟩,⟨bl_⟩⟩
     case round =>
      clear H'
      try clear c2
      try clear p2
      try clear c4
      try clear c4b0
      try clear c4b1
      try clear c6
      try clear c6b0
      try clear c7
      try clear p2
      obtain ⟨x9_2,x11_2,rfl,rfl,HA,HK2,HB⟩ := hrel
      cases gk with
      | zero=>exact absurd HA.out (by simp [batonref03_Decode.l0])
      | succ k2 =>
       have H := HA.out
       clear HA
       simp only [batonref03_Decode.l0] at H
       by_cases c9 : x9_2 < (a0.size : Int)
       ·rw [if_pos c9] at H
        have c9b0 : decide (x9_2 < (a0.size : Int)) = true := decide_eq_true c9
        clear c9
        by_cases c10 : 0 ≤ x9_2
        ·rw [if_pos c10] at H
         have c10b0 := eq_true c10
         have c10b1 : decide (0 ≤ x9_2) = true := decide_eq_true c10
         clear c10
         by_cases c11 : x9_2 ≤ (a0.size : Int)
         ·rw [if_pos c11] at H
          have c11b0 := eq_true c11
          have c11b1 : decide (x9_2 ≤ (a0.size : Int)) = true := decide_eq_true c11
          clear c11
          replace H := Option.bind_eq_some_iff.mp H
          obtain ⟨⟨t494,t495,t496,t497,t498⟩,A120,H⟩ := H
          replace H : (if t498 < 0 then (some ((⟨#[]⟩ : ByteArray),8)) else (if t494 = true then (if t496 < 1 then (batonref03_Decode.j2 k2 a0 t489 (wrap64 (x9_2 + t498)) x11_2 true t494 t495 t496 t497) else (if t496 > (x11_2.size : Int) then (batonref03_Decode.j2 k2 a0 t489 (wrap64 (x9_2 + t498)) x11_2 true t494 t495 t496 t497) else (batonref03_Decode.j2 k2 a0 t489 (wrap64 (x9_2 + t498)) x11_2 (decide ((IntKind.u64.wrap (wrap64 ((wrap64 ((x11_2.size : Int) + (t495.size : Int))) + t497))) > t489)) t494 t495 t496 t497))) else (batonref03_Decode.j2 k2 a0 t489 (wrap64 (x9_2 + t498)) x11_2 (decide ((IntKind.u64.wrap (wrap64 ((wrap64 ((x11_2.size : Int) + (t495.size : Int))) + t497))) > t489)) t494 t495 t496 t497))) = some (r1,r2) := H
          have A12 := Aside0.mk A120
          clear A120
          by_cases c13 : t498 < 0
          ·rw [if_pos c13] at H
           have c13b0 : decide (t498 < 0) = true := decide_eq_true c13
           clear c13
           simp only [Option.some.injEq,Prod.mk.injEq] at H
           obtain ⟨rfl,rfl⟩ := H
           go_wp2_with (first|((with_reducible refine gate_callee (f := 49) rfl ?_);refine goesL_ (some 46) rfl rfl Try.func49 q9_ rfl #[.string (a0.extract (x9_2 : Int).toNat a0.size)] rfl q0_ ?_;(with_reducible refine (batonref03_element.calls k2 (a0.extract (x9_2 : Int).toNat a0.size) t494 t495 t496 t497 t498 _ A12.out).mono ?_);rintro e w14 ⟨rfl,hb⟩;refine ⟨_,rfl,?_⟩;have n0_ := Aside0.mk (below_step (bl_) hb);clear HB;have HB := n0_;clear n0_;(try clear hb);(try clear hb2);(try clear hk);(try clear hi))|((with_reducible refine gate_dst (N := 12) rfl ?_);(try (refine gate_guard (by rfl) ?_;dsimp only));refine box_event ?hg (N := 12) ?hd (cs := #[.bool false,.string (⟨#[]⟩ : ByteArray),.int .i64 0,.int .i64 0]) (t := 72) ?hr ?_;(case hd=>rfl);(case hg=>rfl);(case hr=>first|(go_simp;done)|(go_simp;rfl)|(go_simp;simp [my_u8w];done));intro gb499 hg w15 hbox hb;have n0_ := Aside0.mk (below_step (bl_) hb);have n1_ := Aside0.mk (hbox);have n2_ := Aside0.mk ((by rw [hg];exact (below_size (bl_)) : w.heap.size ≤ gb499));have n3_ := Aside0.mk ((by rw [hg];exact (below_size (bl_)) : w.heap.size ≤ gb499));clear HB;have HB := n0_;have BK499 := n1_;have GW499 := n2_;have GE499 := n3_;clear n0_ n1_ n2_ n3_;clear hb hbox hg;have hcz16_0 : w15.cell? ⟨gb499,0,none⟩ = some (.bool false) := (blk_cell BK499.out 0).trans rfl;have hcz16_1 : w15.cell? ⟨gb499,1,none⟩ = some (.string (⟨#[]⟩ : ByteArray)) := (blk_cell BK499.out 1).trans rfl;have hcz16_2 : w15.cell? ⟨gb499,2,none⟩ = some (.int .i64 0) := (blk_cell BK499.out 2).trans rfl;have hcz16_3 : w15.cell? ⟨gb499,3,none⟩ = some (.int .i64 0) := (blk_cell BK499.out 3).trans rfl;have hfz16_0 := blk_frozen BK499.out 0;have hfz16_1 := blk_frozen BK499.out 1;have hfz16_2 := blk_frozen BK499.out 2;have hfz16_3 := blk_frozen BK499.out 3))
           go_ret2
           exact ⟨q1_,q44_⟩
          ·rw [if_neg c13] at H
           have c13b0 : decide (t498 < 0) = false := decide_eq_false c13
           clear c13
           have HC17 := Aside0.mk H
           clear H
           go_upto_region 13 with (first|((with_reducible refine gate_callee (f := 49) rfl ?_);refine goesL_ (some 46) rfl rfl Try.func49 q9_ rfl #[.string (a0.extract (x9_2 : Int).toNat a0.size)] rfl q0_ ?_;(with_reducible refine (batonref03_element.calls k2 (a0.extract (x9_2 : Int).toNat a0.size) t494 t495 t496 t497 t498 _ A12.out).mono ?_);rintro e w18 ⟨rfl,hb⟩;refine ⟨_,rfl,?_⟩;have n0_ := Aside0.mk (below_step (bl_) hb);clear HB;have HB := n0_;clear n0_;(try clear hb);(try clear hb2);(try clear hk);(try clear hi))|((with_reducible refine gate_dst (N := 12) rfl ?_);(try (refine gate_guard (by rfl) ?_;dsimp only));refine box_event ?hg (N := 12) ?hd (cs := #[.bool false,.string (⟨#[]⟩ : ByteArray),.int .i64 0,.int .i64 0]) (t := 72) ?hr ?_;(case hd=>rfl);(case hg=>rfl);(case hr=>first|(go_simp;done)|(go_simp;rfl)|(go_simp;simp [my_u8w];done));intro gb499 hg w19 hbox hb;have n0_ := Aside0.mk (below_step (bl_) hb);have n1_ := Aside0.mk (hbox);have n2_ := Aside0.mk ((by rw [hg];exact (below_size (bl_)) : w.heap.size ≤ gb499));have n3_ := Aside0.mk ((by rw [hg];exact (below_size (bl_)) : w.heap.size ≤ gb499));clear HB;have HB := n0_;have BK499 := n1_;have GW499 := n2_;have GE499 := n3_;clear n0_ n1_ n2_ n3_;clear hb hbox hg;have hcz20_0 : w19.cell? ⟨gb499,0,none⟩ = some (.bool false) := (blk_cell BK499.out 0).trans rfl;have hcz20_1 : w19.cell? ⟨gb499,1,none⟩ = some (.string (⟨#[]⟩ : ByteArray)) := (blk_cell BK499.out 1).trans rfl;have hcz20_2 : w19.cell? ⟨gb499,2,none⟩ = some (.int .i64 0) := (blk_cell BK499.out 2).trans rfl;have hcz20_3 : w19.cell? ⟨gb499,3,none⟩ = some (.int .i64 0) := (blk_cell BK499.out 3).trans rfl;have hfz20_0 := blk_frozen BK499.out 0;have hfz20_1 := blk_frozen BK499.out 1;have hfz20_2 := blk_frozen BK499.out 2;have hfz20_3 := blk_frozen BK499.out 3))
           (try simp only [Act.put,List.setIfInBounds_toArray,List.set_cons_zero,List.set_cons_succ])
           go_cut [81] (fun v81 wc=>∃ (kq : Nat) (x81_16 : Bool),v81 = .bool x81_16 ∧ Aside0 (batonref03_Decode.j2 kq a0 t489 (wrap64 (x9_2 + t498)) x11_2 x81_16 t494 t495 t496 t497 = some (r1,r2)) ∧ Aside0 (kq ≤ k2) ∧ Aside0 (wc.heap[gb499]? = some (.cells #[.bool t494,.string t495,.int .i64 t496,.int .i64 t497] 72 (0,0))) ∧ Aside0 (Below w.heap.size w wc))
           case first =>
            have H := HC17.out
            clear HC17
            by_cases c21 : t494 = true
            ·subst c21
             have H1 : (if t496 < 1 then (batonref03_Decode.j2 k2 a0 t489 (wrap64 (x9_2 + t498)) x11_2 true true t495 t496 t497) else (if t496 > (x11_2.size : Int) then (batonref03_Decode.j2 k2 a0 t489 (wrap64 (x9_2 + t498)) x11_2 true true t495 t496 t497) else (batonref03_Decode.j2 k2 a0 t489 (wrap64 (x9_2 + t498)) x11_2 (decide ((IntKind.u64.wrap (wrap64 ((wrap64 ((x11_2.size : Int) + (t495.size : Int))) + t497))) > t489)) true t495 t496 t497))) = some (r1,r2) := by rw [if_pos rfl] at H;exact H
             clear H
             have H := H1
             clear H1
             by_cases c22 : t496 < 1
             ·rw [if_pos c22] at H
              have c22b0 : decide (t496 < 1) = true := decide_eq_true c22
              clear c22
              (first|rw [c22b0]|(simp only [i64_w,i32_w];rw [c22b0])|skip)
              have H' := Aside0.mk H
              clear H
              have hcz23_0 : w19.cell? ⟨gb499,0,none⟩ = some (.bool false) := (blk_cell BK499.out 0).trans rfl
              have hcz23_1 : w19.cell? ⟨gb499,1,none⟩ = some (.string (⟨#[]⟩ : ByteArray)) := (blk_cell BK499.out 1).trans rfl
              have hcz23_2 : w19.cell? ⟨gb499,2,none⟩ = some (.int .i64 0) := (blk_cell BK499.out 2).trans rfl
              have hcz23_3 : w19.cell? ⟨gb499,3,none⟩ = some (.int .i64 0) := (blk_cell BK499.out 3).trans rfl
              have hfz23_0 := blk_frozen BK499.out 0
              have hfz23_1 := blk_frozen BK499.out 1
              have hfz23_2 := blk_frozen BK499.out 2
              have hfz23_3 := blk_frozen BK499.out 3
              go_wp2
              go_meet
              case rel=>exact ⟨_,(true),q4_,H',⟨q107_⟩,⟨q37_⟩,⟨q44_⟩⟩
             ·rw [if_neg c22] at H
              have c22b0 : decide (t496 < 1) = false := decide_eq_false c22
              clear c22
              (first|rw [c22b0]|(simp only [i64_w,i32_w];rw [c22b0])|skip)
              by_cases c24 : t496 > (x11_2.size : Int)
              ·rw [if_pos c24] at H
               have c24b0 : decide ((x11_2.size : Int) < t496) = true := decide_eq_true c24
               clear c24
               have H' := Aside0.mk H
               clear H
               have hcz25_0 : w19.cell? ⟨gb499,0,none⟩ = some (.bool false) := (blk_cell BK499.out 0).trans rfl
               have hcz25_1 : w19.cell? ⟨gb499,1,none⟩ = some (.string (⟨#[]⟩ : ByteArray)) := (blk_cell BK499.out 1).trans rfl
               have hcz25_2 : w19.cell? ⟨gb499,2,none⟩ = some (.int .i64 0) := (blk_cell BK499.out 2).trans rfl
               have hcz25_3 : w19.cell? ⟨gb499,3,none⟩ = some (.int .i64 0) := (blk_cell BK499.out 3).trans rfl
               have hfz25_0 := blk_frozen BK499.out 0
               have hfz25_1 := blk_frozen BK499.out 1
               have hfz25_2 := blk_frozen BK499.out 2
               have hfz25_3 := blk_frozen BK499.out 3
               go_wp2
               go_meet
               case rel=>exact ⟨_,(true),q4_,H',⟨q107_⟩,⟨q37_⟩,⟨q44_⟩⟩
              ·rw [if_neg c24] at H
               have c24b0 : decide ((x11_2.size : Int) < t496) = false := decide_eq_false c24
               clear c24
               have H' := Aside0.mk H
               clear H
               have hcz26_0 : w19.cell? ⟨gb499,0,none⟩ = some (.bool false) := (blk_cell BK499.out 0).trans rfl
               have hcz26_1 : w19.cell? ⟨gb499,1,none⟩ = some (.string (⟨#[]⟩ : ByteArray)) := (blk_cell BK499.out 1).trans rfl
               have hcz26_2 : w19.cell? ⟨gb499,2,none⟩ = some (.int .i64 0) := (blk_cell BK499.out 2).trans rfl
               have hcz26_3 : w19.cell? ⟨gb499,3,none⟩ = some (.int .i64 0) := (blk_cell BK499.out 3).trans rfl
               have hfz26_0 := blk_frozen BK499.out 0
               have hfz26_1 := blk_frozen BK499.out 1
               have hfz26_2 := blk_frozen BK499.out 2
               have hfz26_3 := blk_frozen BK499.out 3
               go_wp2
               go_meet
               case rel=>exact ⟨_,(decide ((IntKind.u64.wrap (wrap64 ((wrap64 ((x11_2.size : Int) + (t495.size : Int))) + t497))) > t489)),q4_,H',⟨q107_⟩,⟨q37_⟩,⟨q44_⟩⟩
            ·replace c21 := Bool.eq_false_iff.mpr c21
             subst c21
             have H1 : (batonref03_Decode.j2 k2 a0 t489 (wrap64 (x9_2 + t498)) x11_2 (decide ((IntKind.u64.wrap (wrap64 ((wrap64 ((x11_2.size : Int) + (t495.size : Int))) + t497))) > t489)) false t495 t496 t497) = some (r1,r2) := by rw [if_neg (show ¬ (false = true) by decide)] at H;exact H
             clear H
             have H := H1
             clear H1
             have H' := Aside0.mk H
             clear H
             have hcz27_0 : w19.cell? ⟨gb499,0,none⟩ = some (.bool false) := (blk_cell BK499.out 0).trans rfl
             have hcz27_1 : w19.cell? ⟨gb499,1,none⟩ = some (.string (⟨#[]⟩ : ByteArray)) := (blk_cell BK499.out 1).trans rfl
             have hcz27_2 : w19.cell? ⟨gb499,2,none⟩ = some (.int .i64 0) := (blk_cell BK499.out 2).trans rfl
             have hcz27_3 : w19.cell? ⟨gb499,3,none⟩ = some (.int .i64 0) := (blk_cell BK499.out 3).trans rfl
             have hfz27_0 := blk_frozen BK499.out 0
             have hfz27_1 := blk_frozen BK499.out 1
             have hfz27_2 := blk_frozen BK499.out 2
             have hfz27_3 := blk_frozen BK499.out 3
             go_wp2
             go_meet
             case rel=>exact ⟨_,(decide ((IntKind.u64.wrap (wrap64 ((wrap64 ((x11_2.size : Int) + (t495.size : Int))) + t497))) > t489)),q4_,H',⟨q107_⟩,⟨by (with_reducible repeat (first|refine blk_drewN ?_ _|refine blk_drew ?_|refine blk_alloc ?_ _));refine blk_put (cs := #[.bool false,.string t495,.int .i64 t496,.int .i64 0]) ?_ 3 _ rfl;(with_reducible repeat (first|refine blk_drewN ?_ _|refine blk_drew ?_|refine blk_alloc ?_ _));refine blk_put (cs := #[.bool false,.string t495,.int .i64 0,.int .i64 0]) ?_ 2 _ rfl;(with_reducible repeat (first|refine blk_drewN ?_ _|refine blk_drew ?_|refine blk_alloc ?_ _));refine blk_put (cs := #[.bool false,.string (⟨#[]⟩ : ByteArray),.int .i64 0,.int .i64 0]) ?_ 1 _ rfl;(with_reducible repeat (first|refine blk_drewN ?_ _|refine blk_drew ?_|refine blk_alloc ?_ _));refine blk_put (cs := #[.bool false,.string (⟨#[]⟩ : ByteArray),.int .i64 0,.int .i64 0]) ?_ 0 _ rfl;(with_reducible repeat (first|refine blk_drewN ?_ _|refine blk_drew ?_|refine blk_alloc ?_ _));exact BK499.out⟩,⟨q44_⟩⟩
           case rest =>
            clear HC17
            try clear c1
            try clear c2
            try clear p2
            try clear c4
            try clear c4b0
            try clear c4b1
            try clear c6
            try clear c6b0
            try clear p6
            try clear c7
            try clear c9
            try clear c9b0
            try clear c10
            try clear c10b0
            try clear c10b1
            try clear c11
            try clear c11b0
            try clear c11b1
            try clear c13
            try clear c13b0
            try clear c21
            try clear c22
            try clear c22b0
            try clear c24
            try clear c24b0
            try clear hcz16_0
            try clear hcz16_1
            try clear hcz16_2
            try clear hcz16_3
            try clear hcz20_0
            try clear hcz20_1
            try clear hcz20_2
            try clear hcz20_3
            try clear hcz23_0
            try clear hcz23_1
            try clear hcz23_2
            try clear hcz23_3
            try clear hcz25_0
            try clear hcz25_1
            try clear hcz25_2
            try clear hcz25_3
            try clear hcz26_0
            try clear hcz26_1
            try clear hcz26_2
            try clear hcz26_3
            try clear hcz27_0
            try clear hcz27_1
            try clear hcz27_2
            try clear hcz27_3
            try clear hfz16_0
            try clear hfz16_1
            try clear hfz16_2
            try clear hfz16_3
            try clear hfz20_0
            try clear hfz20_1
            try clear hfz20_2
            try clear hfz20_3
            try clear hfz23_0
            try clear hfz23_1
            try clear hfz23_2
            try clear hfz23_3
            try clear hfz25_0
            try clear hfz25_1
            try clear hfz25_2
            try clear hfz25_3
            try clear hfz26_0
            try clear hfz26_1
            try clear hfz26_2
            try clear hfz26_3
            try clear hfz27_0
            try clear hfz27_1
            try clear hfz27_2
            try clear hfz27_3
            try clear p2
            obtain ⟨kq,x81_16,rfl,HA,HJ16,BK499,HB⟩ := hcut
            cases kq with
            | zero=>exact absurd HA.out (by simp [batonref03_Decode.j2])
            | succ kj16 =>
             have H := HA.out
             clear HA
             simp only [batonref03_Decode.j2] at H
             by_cases c28 : x81_16 = true
             ·subst c28
              have H1 : (some ((⟨#[]⟩ : ByteArray),4)) = some (r1,r2) := by rw [if_pos rfl] at H;exact H
              clear H
              have H := H1
              clear H1
              simp only [Option.some.injEq,Prod.mk.injEq] at H
              obtain ⟨rfl,rfl⟩ := H
              go_wp2
              go_ret2
              exact ⟨q1_,q44_⟩
             ·replace c28 := Bool.eq_false_iff.mpr c28
              subst c28
              have H1 : (if x11_2.size + t495.size ≤ 9223372036854775807 then (batonref03_Decode.l1 kj16 a0 t489 (wrap64 (x9_2 + t498)) (x11_2 ++ t495) 0 t494 t495 t496 t497) else (none)) = some (r1,r2) := by rw [if_neg (show ¬ (false = true) by decide)] at H;exact H
              clear H
              have H := H1
              clear H1
              by_cases c29 : x11_2.size + t495.size ≤ 9223372036854775807
              ·rw [if_pos c29] at H
               have c29b0 := eq_true c29
               have c29b1 : decide (x11_2.size + t495.size ≤ 9223372036854775807) = true := decide_eq_true c29
               try have c29b2 : (9223372036854775807 < x11_2.size + t495.size) = False := eq_false (Nat.not_lt.2 c29)
               have H' := Aside0.mk H
               clear H
               have hcz30_0 : wc.cell? ⟨gb499,0,none⟩ = some (.bool t494) := (blk_cell BK499.out 0).trans rfl
               have hcz30_1 : wc.cell? ⟨gb499,1,none⟩ = some (.string t495) := (blk_cell BK499.out 1).trans rfl
               have hcz30_2 : wc.cell? ⟨gb499,2,none⟩ = some (.int .i64 t496) := (blk_cell BK499.out 2).trans rfl
               have hcz30_3 : wc.cell? ⟨gb499,3,none⟩ = some (.int .i64 t497) := (blk_cell BK499.out 3).trans rfl
               have hfz30_0 := blk_frozen BK499.out 0
               have hfz30_1 := blk_frozen BK499.out 1
               have hfz30_2 := blk_frozen BK499.out 2
               have hfz30_3 := blk_frozen BK499.out 3
               go_wp2
               go_loopg [11,14] kj16 (fun kq v11 v14 w'=>∃ (x11_4 : ByteArray) (x14_4 : Int),v11 = .string x11_4 ∧ v14 = .int .i64 x14_4 ∧ Aside0 (batonref03_Decode.l1 kq a0 t489 (wrap64 (x9_2 + t498)) x11_4 x14_4 t494 t495 t496 t497 = some (r1,r2)) ∧ Aside0 (kq ≤ kj16) ∧ Aside0 (w'.heap[gb499]? = some (.cells #[.bool t494,.string t495,.int .i64 t496,.int .i64 t497] 72 (0,0))) ∧ Aside0 (Below w.heap.size w w'))
               case atStart=>exact ⟨(x11_2 ++ t495),(0),q4_,q4_,H',⟨Nat.le_refl _⟩,⟨by (with_reducible repeat (first|refine blk_drewN ?_ _|refine blk_drew ?_|refine blk_alloc ?_ _));exact BK499.out⟩,⟨q44_⟩⟩
               case round =>
                clear H'
                try clear c1
                try clear c2
                try clear p2
                try clear c4
                try clear c4b0
                try clear c4b1
                try clear c6
                try clear c6b0
                try clear p6
                try clear c7
                try clear c9
                try clear c9b0
                try clear c10
                try clear c10b0
                try clear c10b1
                try clear c11
                try clear c11b0
                try clear c11b1
                try clear c13
                try clear c13b0
                try clear c21
                try clear c22
                try clear c22b0
                try clear c24
                try clear c24b0
                try clear c28
                try clear c29
                try clear c29b0
                try clear c29b1
                try clear c29b2
                try clear hcz16_0
                try clear hcz16_1
                try clear hcz16_2
                try clear hcz16_3
                try clear hcz20_0
                try clear hcz20_1
                try clear hcz20_2
                try clear hcz20_3
                try clear hcz23_0
                try clear hcz23_1
                try clear hcz23_2
                try clear hcz23_3
                try clear hcz25_0
                try clear hcz25_1
                try clear hcz25_2
                try clear hcz25_3
                try clear hcz26_0
                try clear hcz26_1
                try clear hcz26_2
                try clear hcz26_3
                try clear hcz27_0
                try clear hcz27_1
                try clear hcz27_2
                try clear hcz27_3
                try clear hcz30_0
                try clear hcz30_1
                try clear hcz30_2
                try clear hcz30_3
                try clear hfz16_0
                try clear hfz16_1
                try clear hfz16_2
                try clear hfz16_3
                try clear hfz20_0
                try clear hfz20_1
                try clear hfz20_2
                try clear hfz20_3
                try clear hfz23_0
                try clear hfz23_1
                try clear hfz23_2
                try clear hfz23_3
                try clear hfz25_0
                try clear hfz25_1
                try clear hfz25_2
                try clear hfz25_3
                try clear hfz26_0
                try clear hfz26_1
                try clear hfz26_2
                try clear hfz26_3
                try clear hfz27_0
                try clear hfz27_1
                try clear hfz27_2
                try clear hfz27_3
                try clear hfz30_0
                try clear hfz30_1
                try clear hfz30_2
                try clear hfz30_3
                try clear p2
                try clear p6
                obtain ⟨x11_4,x14_4,rfl,rfl,HA,HK4,BK499,HB⟩ := hrel
                cases gk with
                | zero=>exact absurd HA.out (by simp [batonref03_Decode.l1])
                | succ k4 =>
                 have H := HA.out
                 clear HA
                 simp only [batonref03_Decode.l1] at H
                 by_cases c31 : x14_4 < t497
                 ·rw [if_pos c31] at H
                  have c31b0 : decide (x14_4 < t497) = true := decide_eq_true c31
                  clear c31
                  obtain ⟨ji32,hji32⟩ : ∃ j_ : Int,(wrap64 ((x11_4.size : Int) - t496)) = j_ := ⟨_,rfl⟩
                  replace H : (if 0 ≤ (ji32) then (if (ji32) ≤ (wrap64 ((ji32) + 1)) then (if (wrap64 ((ji32) + 1)) ≤ (x11_4.size : Int) then (if x11_4.size + (x11_4.extract ((ji32) : Int).toNat ((wrap64 ((ji32) + 1)) : Int).toNat).size ≤ 9223372036854775807 then (batonref03_Decode.l1 k4 a0 t489 (wrap64 (x9_2 + t498)) (x11_4 ++ (x11_4.extract ((ji32) : Int).toNat ((wrap64 ((ji32) + 1)) : Int).toNat)) (wrap64 (x14_4 + 1)) t494 t495 t496 t497) else (none)) else (none)) else (none)) else (none)) = some (r1,r2) := by first|(rw [hji32] at H;exact H)|(simp only [hji32] at H ⊢;exact H)
                  have hji32w : (IntKind.i64.wrap ((x11_4.size : Int) - t496)) = ji32 := (i64_w _).trans hji32
                  by_cases c33 : 0 ≤ (ji32)
                  ·rw [if_pos c33] at H
                   have c33b0 := eq_true c33
                   have c33b1 : decide (0 ≤ (ji32)) = true := decide_eq_true c33
                   clear c33
                   by_cases c34 : (ji32) ≤ (wrap64 ((ji32) + 1))
                   ·rw [if_pos c34] at H
                    have c34b0 := eq_true c34
                    have c34b1 : decide ((ji32) ≤ (wrap64 ((ji32) + 1))) = true := decide_eq_true c34
                    by_cases c35 : (wrap64 ((ji32) + 1)) ≤ (x11_4.size : Int)
                    ·rw [if_pos c35] at H
                     have c35b0 := eq_true c35
                     have c35b1 : decide ((wrap64 ((ji32) + 1)) ≤ (x11_4.size : Int)) = true := decide_eq_true c35
                     by_cases c36 : x11_4.size + (x11_4.extract ((ji32) : Int).toNat ((wrap64 ((ji32) + 1)) : Int).toNat).size ≤ 9223372036854775807
                     ·rw [if_pos c36] at H
                      have c36b0 := eq_true c36
                      have c36b1 : decide (x11_4.size + (x11_4.extract ((ji32) : Int).toNat ((wrap64 ((ji32) + 1)) : Int).toNat).size ≤ 9223372036854775807) = true := decide_eq_true c36
                      try have c36b2 : (9223372036854775807 < x11_4.size + (x11_4.extract ((ji32) : Int).toNat ((wrap64 ((ji32) + 1)) : Int).toNat).size) = False := eq_false (Nat.not_lt.2 c36)
                      have H' := Aside0.mk H
                      clear H
                      have hcz37_0 : wr.cell? ⟨gb499,0,none⟩ = some (.bool t494) := (blk_cell BK499.out 0).trans rfl
                      have hcz37_1 : wr.cell? ⟨gb499,1,none⟩ = some (.string t495) := (blk_cell BK499.out 1).trans rfl
                      have hcz37_2 : wr.cell? ⟨gb499,2,none⟩ = some (.int .i64 t496) := (blk_cell BK499.out 2).trans rfl
                      have hcz37_3 : wr.cell? ⟨gb499,3,none⟩ = some (.int .i64 t497) := (blk_cell BK499.out 3).trans rfl
                      have hfz37_0 := blk_frozen BK499.out 0
                      have hfz37_1 := blk_frozen BK499.out 1
                      have hfz37_2 := blk_frozen BK499.out 2
                      have hfz37_3 := blk_frozen BK499.out 3
                      go_wp2
                      go_roundg k4
                      case measure=>have := HJ4.out;have := HK2.out;have := HJ16.out;have := HK4.out;omega
                      case rel=>exact ⟨(x11_4 ++ (x11_4.extract ((ji32) : Int).toNat ((wrap64 ((ji32) + 1)) : Int).toNat)),(wrap64 (x14_4 + 1)),(by first|rfl|(simp;done)|(simp only [← hji32] <;> (first|rfl|simp))|(simp [*];done)),q4_,H',⟨by have := HJ4.out;have := HK2.out;have := HJ16.out;have := HK4.out;omega⟩,⟨by (with_reducible repeat (first|refine blk_drewN ?_ _|refine blk_drew ?_|refine blk_alloc ?_ _));exact BK499.out⟩,⟨q44_⟩⟩
                     ·rw [if_neg c36] at H
                      exact absurd H (by simp)
                    ·rw [if_neg c35] at H
                     exact absurd H (by simp)
                   ·rw [if_neg c34] at H
                    exact absurd H (by simp)
                  ·rw [if_neg c33] at H
                   exact absurd H (by simp)
                 ·rw [if_neg c31] at H
                  have c31b0 : decide (x14_4 < t497) = false := decide_eq_false c31
                  clear c31
                  have H' := Aside0.mk H
                  clear H
                  have hcz38_0 : wr.cell? ⟨gb499,0,none⟩ = some (.bool t494) := (blk_cell BK499.out 0).trans rfl
                  have hcz38_1 : wr.cell? ⟨gb499,1,none⟩ = some (.string t495) := (blk_cell BK499.out 1).trans rfl
                  have hcz38_2 : wr.cell? ⟨gb499,2,none⟩ = some (.int .i64 t496) := (blk_cell BK499.out 2).trans rfl
                  have hcz38_3 : wr.cell? ⟨gb499,3,none⟩ = some (.int .i64 t497) := (blk_cell BK499.out 3).trans rfl
                  have hfz38_0 := blk_frozen BK499.out 0
                  have hfz38_1 := blk_frozen BK499.out 1
                  have hfz38_2 := blk_frozen BK499.out 2
                  have hfz38_3 := blk_frozen BK499.out 3
                  go_wp2
                  go_roundg k4
                  case measure=>have := HJ4.out;have := HK2.out;have := HJ16.out;have := HK4.out;omega
                  case rel=>exact ⟨((wrap64 (x9_2 + t498))),(x11_4),q4_,q4_,H',⟨by have := HJ4.out;have := HK2.out;have := HJ16.out;have := HK4.out;omega⟩,⟨q44_⟩⟩
              ·rw [if_neg c29] at H
               exact absurd H (by simp)
         ·rw [if_neg c11] at H
          exact absurd H (by simp)
        ·rw [if_neg c10] at H
         exact absurd H (by simp)
       ·rw [if_neg c9] at H
        have c9b0 : decide (x9_2 < (a0.size : Int)) = false := decide_eq_false c9
        clear c9
        by_cases c39 : (IntKind.u64.wrap ((x11_2.size : Int))) < t489
        ·rw [if_pos c39] at H
         have c39b0 : decide ((IntKind.u64.wrap ((x11_2.size : Int))) < t489) = true := decide_eq_true c39
         clear c39
         simp only [Option.some.injEq,Prod.mk.injEq] at H
         obtain ⟨rfl,rfl⟩ := H
         go_wp2
         go_ret2
         exact ⟨q1_,bl_⟩
        ·rw [if_neg c39] at H
         have c39b0 : decide ((IntKind.u64.wrap ((x11_2.size : Int))) < t489) = false := decide_eq_false c39
         clear c39
         simp only [Option.some.injEq,Prod.mk.injEq] at H
         obtain ⟨rfl,rfl⟩ := H
         go_wp2
         go_ret2
         exact ⟨q1_,bl_⟩
 ·rw [if_neg c4] at H
  have c4b0 : (t490 == 0) = false := beq_eq_false_iff_ne.mpr c4
  have c4b1 : (t490 != 0) = true := bne_iff_ne.mpr c4
  simp only [Option.some.injEq,Prod.mk.injEq] at H
  obtain ⟨rfl,rfl⟩ := H
  go_enter Try.func29,Try.ntmps29
  go_wp2_with (first|((with_reducible refine gate_callee (f := 28) rfl ?_);refine goesL_ (some 18) rfl rfl Try.func28 q9_ rfl #[.string a0] rfl q0_ ?_;(with_reducible refine (batonref03_Size.calls k a0 t489 t490 _ A3.out).mono ?_);rintro e w' ⟨rfl,⟨nd,rfl⟩⟩;refine ⟨_,rfl,?_⟩))
  go_ret2
  exact ⟨q1_,bl_⟩

end Go.Proofs.Ythcjcmgdblhhfaa.PV

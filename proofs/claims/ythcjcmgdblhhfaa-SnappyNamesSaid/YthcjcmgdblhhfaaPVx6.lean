/- The machine side of these statements: what each Go function computes as a plain function, and that its call computes just that. Written by a program of mine (wip/drive.py). No conditions. -/
import Derived.Test.YthcjcmgdblhhfaaPVx0
import Derived.Test.YthcjcmgdblhhfaaPVx2
import Derived.Test.YthcjcmgdblhhfaaPVx5
namespace Go.Proofs.Ythcjcmgdblhhfaa.PV
open Go.RowKit Go.Proofs.YthcjcmgdblhhfaaW.PrintWords Go.Proofs.YthcjcmgdblhhfaaW.PrintLast Go.Proofs.YthcjcmgdblhhfaaW.PrintMore
attribute [local go_sem] max2_int min2_int max_two min_two max_three min_three max_four min_four   -- for this text's walks alone
set_option linter.unusedVariables false
set_option linter.unusedSimpArgs false

/-! ### bits_Reader_Byte: function 52 -/
def bits_Reader_Byte.f (s0_0 : ByteArray) (s0_1 : Int) (s0_2 : Int) : Option (Int × ByteArray × Int × Int) := (bits_Reader_Raw.f s0_0 s0_1 s0_2 1).bind fun bt128 => (if bt128.1.toList = ([] : List UInt8) then (some (0, bt128.2.1, bt128.2.2.1, bt128.2.2.2)) else (if 0 < (bt128.1.size : Int) then (some (bt bt128.1 0, bt128.2.1, bt128.2.2.1, bt128.2.2.2)) else (none)))
set_option maxHeartbeats 8000000 in
set_option maxRecDepth 100000 in
theorem bits_Reader_Byte.calls (g : Nat) (s0_0 : ByteArray) (s0_1 : Int) (s0_2 : Int) (r1 : Int) (r2 : ByteArray) (r3 : Int) (r4 : Int) (w0 w : World) (hI : IsS81 w0 w g s0_0 s0_1 s0_2) (hB : Below w0.heap.size w0 w) (h : bits_Reader_Byte.f s0_0 s0_1 s0_2 = some (r1, r2, r3, r4)) :
  Calls Try.prog 52 #[.pointer (some ⟨g,0,none⟩)] w fun e w'=>e = .returned (.int .u8 r1) ∧ IsS81 w0 w' g r2 r3 r4 ∧ Below w0.heap.size w0 w' ∧ KeepBut w w' g none := by
 have HI0 := Aside0.mk hI
 have HK := Aside0.mk (KeepBut.refl w g none)
 have HL := Aside0.mk hB.size
 clear hI
 have HW0 := Aside0.mk hB.size
 have HB := Aside0.mk hB
 clear hB
 have H : ((bits_Reader_Raw.f s0_0 s0_1 s0_2 1).bind fun bt128=>(if bt128.1.toList = ([] : List UInt8) then (some (0,bt128.2.1,bt128.2.2.1,bt128.2.2.2)) else (if 0 < (bt128.1.size : Int) then (some (bt bt128.1 0,bt128.2.1,bt128.2.2.1,bt128.2.2.2)) else (none)))) = some (r1,r2,r3,r4) := h
 clear h
 replace H := Option.bind_eq_some_iff.mp H
 obtain ⟨⟨t128,t129,t130,t131⟩,A20,H⟩ := H
 replace H : (if t128.toList = ([] : List UInt8) then (some (0,t129,t130,t131)) else (if 0 < (t128.size : Int) then (some (bt t128 0,t129,t130,t131)) else (none))) = some (r1,r2,r3,r4) := H
 have A2 := Aside0.mk A20
 clear A20
 by_cases c3 : t128.toList = ([] : List UInt8)
 ·rw [if_pos c3] at H
  have c3b0 : (t128.toList == ([] : List UInt8)) = true := beq_iff_eq.mpr c3
  have c3b1 : (t128.toList != ([] : List UInt8)) = false := bne_eq_false_iff_eq.mpr c3
  clear c3
  simp only [Option.some.injEq,Prod.mk.injEq] at H
  obtain ⟨rfl,rfl,rfl,rfl⟩ := H
  go_enter Try.func52,Try.ntmps52
  go_wp2_with (first|((with_reducible refine gate_callee (f := 54) rfl ?_);refine goesL_ (some 5) rfl rfl Try.func54 q9_ rfl #[.pointer (some ⟨g,0,none⟩),.int .i64 1] rfl q0_ ?_;(with_reducible refine (bits_Reader_Raw.calls g s0_0 s0_1 s0_2 1 t128 t129 t130 t131 w0 _ ?side1 ?side2 A2.out).mono ?_);(case side1=>repeat (first|(with_reducible first|exact HI0.out|apply IsS81.alloc|apply IsS81.drewN|apply IsS81.drew|apply IsS81.set_0|apply IsS81.set_1|apply IsS81.set_2)|exact HI0.out));(case side2=>repeat (first|(with_reducible first|exact HB.out|apply below_alloc|apply pw_below_drewN|apply below_drew1|refine below_set ?_ (IsS81.ge HI0.out))|exact HB.out));rintro e w4 ⟨rfl,hi,hb,hk⟩;refine ⟨_,rfl,?_⟩;have n0_ := Aside0.mk (KeepBut.trans q2_ hk (.inl rfl));have n1_ := Aside0.mk (hb);have n2_ := Aside0.mk (hi);clear HK;clear HB;clear HI0;have HK := n0_;have HB := n1_;have HI0 := n2_;clear n0_ n1_ n2_;(try clear hb);(try clear hb2);(try clear hk);(try clear hi)))
  go_ret
  exact ⟨q1_,q11_,q13_,q2_⟩
 ·rw [if_neg c3] at H
  have c3b0 : (t128.toList == ([] : List UInt8)) = false := beq_eq_false_iff_ne.mpr c3
  have c3b1 : (t128.toList != ([] : List UInt8)) = true := bne_iff_ne.mpr c3
  by_cases c5 : 0 < (t128.size : Int)
  ·rw [if_pos c5] at H
   have c5b0 : decide (0 < (t128.size : Int)) = true := decide_eq_true c5
   have c5b1 : decide (0 < t128.size) = true := decide_eq_true q75_
   clear c5
   simp only [Option.some.injEq,Prod.mk.injEq] at H
   obtain ⟨rfl,rfl,rfl,rfl⟩ := H
   go_enter Try.func52,Try.ntmps52
   go_wp2_with (first|((with_reducible refine gate_callee (f := 54) rfl ?_);refine goesL_ (some 5) rfl rfl Try.func54 q9_ rfl #[.pointer (some ⟨g,0,none⟩),.int .i64 1] rfl q0_ ?_;(with_reducible refine (bits_Reader_Raw.calls g s0_0 s0_1 s0_2 1 t128 t129 t130 t131 w0 _ ?side1 ?side2 A2.out).mono ?_);(case side1=>repeat (first|(with_reducible first|exact HI0.out|apply IsS81.alloc|apply IsS81.drewN|apply IsS81.drew|apply IsS81.set_0|apply IsS81.set_1|apply IsS81.set_2)|exact HI0.out));(case side2=>repeat (first|(with_reducible first|exact HB.out|apply below_alloc|apply pw_below_drewN|apply below_drew1|refine below_set ?_ (IsS81.ge HI0.out))|exact HB.out));rintro e w7 ⟨rfl,hi,hb,hk⟩;refine ⟨_,rfl,?_⟩;have n0_ := Aside0.mk (KeepBut.trans q2_ hk (.inl rfl));have n1_ := Aside0.mk (hb);have n2_ := Aside0.mk (hi);clear HK;clear HB;clear HI0;have HK := n0_;have HB := n1_;have HI0 := n2_;clear n0_ n1_ n2_;(try clear hb);(try clear hb2);(try clear hk);(try clear hi);have p6 : 0 ≤ (0 : Int) := q75_;have q6 : 0 < t128.size := (by have : (0 : Int) < (t128.size : Int) := of_decide_eq_true q3_;omega);have hx6 : ∀ h : 0 < t128.size,((t128[0]'h).toNat : Int) = bt t128 0 := bt_at t128 0;clear p6;have qi6 : (0 < (t128.size : Int)) = True := eq_true (of_decide_eq_true q3_);replace q6 := eq_true q6))
   go_ret
   exact ⟨q1_,q11_,q13_,q2_⟩
  ·rw [if_neg c5] at H
   exact absurd H (by simp)

/-! ### snappy_low: function 53 -/
def snappy_low.l0 : Nat → ByteArray → Int → Int → ByteArray → Int → Int → Option (Int × ByteArray × Int × Int)
 | 0,_,_,_,_,_,_=>none
 | k + 1,x5,x6,x7,x1000,x1001,x1002=>if x7 ≥ 0 then (if 0 ≤ x7 then (if x7 < (x5.size : Int) then (snappy_low.l0 k x5 (Go.bits .or .i64 (wrap64 (x6 * 256)) (wrap64 (bt x5 x7))) (wrap64 (x7 - 1)) x1000 x1001 x1002) else (none)) else (none)) else (some (x6,x1000,x1001,x1002))
def snappy_low.f (k : Nat) (s0_0 : ByteArray) (s0_1 : Int) (s0_2 : Int) (a1 : Int) : Option (Int × ByteArray × Int × Int) := (bits_Reader_Raw.f s0_0 s0_1 s0_2 a1).bind fun bt132 => (snappy_low.l0 k bt132.1 0 (wrap64 ((bt132.1.size : Int) - 1)) bt132.2.1 bt132.2.2.1 bt132.2.2.2)
theorem snappy_low.mono_l : ∀ k, (∀ y0 y1 y2 y3 y4 y5, LeO (snappy_low.l0 k y0 y1 y2 y3 y4 y5) (snappy_low.l0 (k + 1) y0 y1 y2 y3 y4 y5))
 | 0=>fun _ _ _ _ _ _ r h=>by simp [snappy_low.l0] at h
 | k + 1=>by
  have ih0 := snappy_low.mono_l k
  ·intro y0 y1 y2 y3 y4 y5
   unfold snappy_low.l0
   repeat' first
   | (with_reducible exact ih0 _ _ _ _ _ _)
   | (with_reducible exact LeO.refl _)
   | (with_reducible exact LeO.none _)
   | (with_reducible refine LeO.ite ?_ ?_)
   | (with_reducible refine LeO.bind ?_ (fun _=>?_))
   | exact ih0 _ _ _ _ _ _
   | exact LeO.none _
   | refine LeO.ite ?_ ?_
   | refine LeO.bind ?_ (fun _=>?_)
theorem snappy_low.mono : ∀ a0 a1 a2 a3 k, LeO (snappy_low.f k a0 a1 a2 a3) (snappy_low.f (k + 1) a0 a1 a2 a3) := by
 intro a0 a1 a2 a3 k
 have ih0 := snappy_low.mono_l k
 unfold snappy_low.f
 repeat' first
   | (with_reducible exact ih0 _ _ _ _ _ _)
   | (with_reducible exact LeO.refl _)
   | (with_reducible exact LeO.none _)
   | (with_reducible refine LeO.ite ?_ ?_)
   | (with_reducible refine LeO.bind ?_ (fun _=>?_))
   | exact ih0 _ _ _ _ _ _
   | exact LeO.none _
   | refine LeO.ite ?_ ?_
   | refine LeO.bind ?_ (fun _=>?_)
set_option maxHeartbeats 8000000 in
set_option maxRecDepth 100000 in
theorem snappy_low.calls (k : Nat) (g : Nat) (s0_0 : ByteArray) (s0_1 : Int) (s0_2 : Int) (a1 : Int) (r1 : Int) (r2 : ByteArray) (r3 : Int) (r4 : Int) (w0 w : World) (hI : IsS81 w0 w g s0_0 s0_1 s0_2) (hB : Below w0.heap.size w0 w) (h : snappy_low.f k s0_0 s0_1 s0_2 a1 = some (r1, r2, r3, r4)) :
  Calls Try.prog 53 #[.pointer (some ⟨g,0,none⟩),.int .i64 a1] w fun e w'=>e = .returned (.int .i64 r1) ∧ IsS81 w0 w' g r2 r3 r4 ∧ Below w0.heap.size w0 w' ∧ KeepBut w w' g none := by
 have HI0 := Aside0.mk hI
 have HK := Aside0.mk (KeepBut.refl w g none)
 have HL := Aside0.mk hB.size
 clear hI
 have HW0 := Aside0.mk hB.size
 have HB := Aside0.mk hB
 clear hB
 have H : ((bits_Reader_Raw.f s0_0 s0_1 s0_2 a1).bind fun bt132=>(snappy_low.l0 k bt132.1 0 (wrap64 ((bt132.1.size : Int) - 1)) bt132.2.1 bt132.2.2.1 bt132.2.2.2)) = some (r1,r2,r3,r4) := h
 clear h
 replace H := Option.bind_eq_some_iff.mp H
 obtain ⟨⟨t132,t133,t134,t135⟩,A30,H⟩ := H
 replace H : (snappy_low.l0 k t132 0 (wrap64 ((t132.size : Int) - 1)) t133 t134 t135) = some (r1,r2,r3,r4) := H
 have A3 := Aside0.mk A30
 clear A30
 have H' := Aside0.mk H
 clear H
 go_enter Try.func53,Try.ntmps53
 go_wp2_with (first|((with_reducible refine gate_callee (f := 54) rfl ?_);refine goesL_ (some 10) rfl rfl Try.func54 q9_ rfl #[.pointer (some ⟨g,0,none⟩),.int .i64 a1] rfl q0_ ?_;(with_reducible refine (bits_Reader_Raw.calls g s0_0 s0_1 s0_2 a1 t132 t133 t134 t135 w0 _ ?side1 ?side2 A3.out).mono ?_);(case side1=>repeat (first|(with_reducible first|exact HI0.out|apply IsS81.alloc|apply IsS81.drewN|apply IsS81.drew|apply IsS81.set_0|apply IsS81.set_1|apply IsS81.set_2)|exact HI0.out));(case side2=>repeat (first|(with_reducible first|exact HB.out|apply below_alloc|apply pw_below_drewN|apply below_drew1|refine below_set ?_ (IsS81.ge HI0.out))|exact HB.out));rintro e w4 ⟨rfl,hi,hb,hk⟩;refine ⟨_,rfl,?_⟩;have n0_ := Aside0.mk (KeepBut.trans q2_ hk (.inl rfl));have n1_ := Aside0.mk (hb);have n2_ := Aside0.mk (hi);clear HK;clear HB;clear HI0;have HK := n0_;have HB := n1_;have HI0 := n2_;clear n0_ n1_ n2_;(try clear hb);(try clear hb2);(try clear hk);(try clear hi)))
 go_loopg [6,7] k (fun kq v6 v7 w'=>∃ (x6_1 : Int) (x7_1 : Int),v6 = .int .i64 x6_1 ∧ v7 = .int .i64 x7_1 ∧ Aside0 (snappy_low.l0 kq t132 x6_1 x7_1 t133 t134 t135 = some (r1,r2,r3,r4)) ∧ Aside0 (kq ≤ k) ∧ Aside0 (IsS81 w0 w' g t133 t134 t135) ∧ Aside0 (KeepBut w w' g none) ∧ Aside0 (Below w0.heap.size w0 w'))
 case atStart=>exact ⟨(0),(wrap64 ((t132.size : Int) - 1)),q4_,q4_,H',⟨Nat.le_refl _⟩,⟨q11_⟩,⟨q2_⟩,⟨q13_⟩⟩
 case round =>
  clear H'
  try clear p2
  obtain ⟨x6_1,x7_1,rfl,rfl,HA,HK1,HI0,HK,HB⟩ := hrel
  cases gk with
  | zero=>exact absurd HA.out (by simp [snappy_low.l0])
  | succ k1 =>
   have H := HA.out
   clear HA
   simp only [snappy_low.l0] at H
   by_cases c5 : x7_1 ≥ 0
   ·rw [if_pos c5] at H
    have c5b0 : decide (0 ≤ x7_1) = true := decide_eq_true c5
    clear c5
    by_cases c6 : 0 ≤ x7_1
    ·rw [if_pos c6] at H
     have c6b0 : decide (0 ≤ x7_1) = true := decide_eq_true c6
     clear c6
     by_cases c7 : x7_1 < (t132.size : Int)
     ·rw [if_pos c7] at H
      have c7b0 : decide (x7_1 < (t132.size : Int)) = true := decide_eq_true c7
      clear c7
      have H' := Aside0.mk H
      clear H
      have p8 : 0 ≤ (x7_1 : Int) := of_decide_eq_true q3_
      have q8 : x7_1 < (t132.size : Int) := of_decide_eq_true q3_
      have hx8 := bt_at t132 x7_1
      replace p8 := eq_true p8
      replace q8 := eq_true q8
      go_wp2
      go_roundg k1
      case measure=>have := HK1.out;omega
      case rel=>exact ⟨(Go.bits .or .i64 (wrap64 (x6_1 * 256)) (wrap64 (bt t132 x7_1))),(wrap64 (x7_1 - 1)),q4_,q4_,H',⟨q85_⟩,⟨q11_⟩,⟨q2_⟩,⟨q13_⟩⟩
     ·rw [if_neg c7] at H
      exact absurd H (by simp)
    ·rw [if_neg c6] at H
     exact absurd H (by simp)
   ·rw [if_neg c5] at H
    have c5b0 : decide (0 ≤ x7_1) = false := decide_eq_false c5
    clear c5
    simp only [Option.some.injEq,Prod.mk.injEq] at H
    obtain ⟨rfl,rfl,rfl,rfl⟩ := H
    go_wp2
    go_ret
    exact ⟨q1_,q11_,q13_,q2_⟩

end Go.Proofs.Ythcjcmgdblhhfaa.PV

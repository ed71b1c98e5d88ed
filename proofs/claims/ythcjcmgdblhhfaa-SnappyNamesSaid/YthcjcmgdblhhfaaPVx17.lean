/- The machine side of these statements: what each Go function computes as a plain function, and that its call computes just that. Written by a program of mine (wip/drive.py). No conditions. -/
import Derived.Test.YthcjcmgdblhhfaaPVx0
import Derived.Test.YthcjcmgdblhhfaaPVx10
import Derived.Test.YthcjcmgdblhhfaaPVx16
namespace Go.Proofs.Ythcjcmgdblhhfaa.PV
open Go.RowKit Go.Proofs.YthcjcmgdblhhfaaW.PrintWords Go.Proofs.YthcjcmgdblhhfaaW.PrintLast Go.Proofs.YthcjcmgdblhhfaaW.PrintMore
attribute [local go_sem] max2_int min2_int max_two min_two max_three min_three max_four min_four   -- for this text's walks alone
set_option linter.unusedVariables false
set_option linter.unusedSimpArgs false

/-! ### batonlaw03_is: function 32 -/
def batonlaw03_is.f (k : Nat) (a0 : ByteArray) (a1 : ByteArray) : Option (Bool) := (snappy_Encode.f k a0).bind fun bt274 => ((snappy_Decode.f k a1 100).bind fun bt276 => (if bt274.2 = 0 then (if bt274.1.toList = a1.toList then (if bt276.2 = 0 then (some (bt276.1.toList == a0.toList)) else (some false)) else (some false)) else (some false)))
theorem batonlaw03_is.mono : ∀ a0 a1 k, LeO (batonlaw03_is.f k a0 a1) (batonlaw03_is.f (k + 1) a0 a1) := by
 intro a0 a1 k
 unfold batonlaw03_is.f
 repeat' first
   | (with_reducible exact snappy_Decode.mono _ _ _)
   | (with_reducible exact snappy_Encode.mono _ _)
   | (with_reducible exact LeO.refl _)
   | (with_reducible exact LeO.none _)
   | (with_reducible refine LeO.ite ?_ ?_)
   | (with_reducible refine LeO.bind ?_ (fun _=>?_))
   | exact snappy_Decode.mono _ _ _
   | exact snappy_Encode.mono _ _
   | exact LeO.none _
   | refine LeO.ite ?_ ?_
   | refine LeO.bind ?_ (fun _=>?_)
set_option maxHeartbeats 8000000 in
set_option maxRecDepth 100000 in
theorem batonlaw03_is.calls (k : Nat) (a0 : ByteArray) (a1 : ByteArray) (r : Bool) (w : World) (h : batonlaw03_is.f k a0 a1 = some r) :
  Calls Try.prog 32 #[.string a0,.string a1] w fun e w'=>e = .returned (.bool r) ∧ Below w.heap.size w w' := by
 have HB := Aside0.mk (Below.refl w.heap.size w)
 have H : ((snappy_Encode.f k a0).bind fun bt274=>((snappy_Decode.f k a1 100).bind fun bt276=>(if bt274.2 = 0 then (if bt274.1.toList = a1.toList then (if bt276.2 = 0 then (some (bt276.1.toList == a0.toList)) else (some false)) else (some false)) else (some false)))) = some r := h
 clear h
 replace H := Option.bind_eq_some_iff.mp H
 obtain ⟨⟨t274,t275⟩,A30,H⟩ := H
 replace H : ((snappy_Decode.f k a1 100).bind fun bt276=>(if t275 = 0 then (if t274.toList = a1.toList then (if bt276.2 = 0 then (some (bt276.1.toList == a0.toList)) else (some false)) else (some false)) else (some false))) = some r := H
 have A3 := Aside0.mk A30
 clear A30
 replace H := Option.bind_eq_some_iff.mp H
 obtain ⟨⟨t276,t277⟩,A40,H⟩ := H
 replace H : (if t275 = 0 then (if t274.toList = a1.toList then (if t277 = 0 then (some (t276.toList == a0.toList)) else (some false)) else (some false)) else (some false)) = some r := H
 have A4 := Aside0.mk A40
 clear A40
 by_cases c5 : t275 = 0
 ·rw [if_pos c5] at H
  have c5b0 : (t275 == 0) = true := beq_iff_eq.mpr c5
  have c5b1 : (t275 != 0) = false := bne_eq_false_iff_eq.mpr c5
  clear c5
  by_cases c6 : t274.toList = a1.toList
  ·rw [if_pos c6] at H
   have c6b0 : (t274.toList == a1.toList) = true := beq_iff_eq.mpr c6
   have c6b1 : (t274.toList != a1.toList) = false := bne_eq_false_iff_eq.mpr c6
   clear c6
   by_cases c7 : t277 = 0
   ·rw [if_pos c7] at H
    have c7b0 : (t277 == 0) = true := beq_iff_eq.mpr c7
    have c7b1 : (t277 != 0) = false := bne_eq_false_iff_eq.mpr c7
    clear c7
    obtain rfl := Option.some.inj H
    go_enter Try.func32,Try.ntmps32
    go_wp2_with (first|((with_reducible refine gate_callee (f := 14) rfl ?_);refine goesL_ (some 11) rfl rfl Try.func14 q9_ rfl #[.string a0] rfl q0_ ?_;(with_reducible refine (snappy_Encode.calls k a0 t274 t275 _ A3.out).mono ?_);rintro e w8 ⟨rfl,hb⟩;refine ⟨_,rfl,?_⟩;have n0_ := Aside0.mk (below_step (bl_) hb);clear HB;have HB := n0_;clear n0_;(try clear hb);(try clear hb2);(try clear hk);(try clear hi))|((with_reducible refine gate_callee (f := 13) rfl ?_);refine goesL_ (some 16) rfl rfl Try.func13 q9_ rfl #[.string a1,.int .i64 100] rfl q0_ ?_;(with_reducible refine (snappy_Decode.calls k a1 100 t276 t277 _ A4.out).mono ?_);rintro e w9 ⟨rfl,hb⟩;refine ⟨_,rfl,?_⟩;have n0_ := Aside0.mk (below_step (bl_) hb);clear HB;have HB := n0_;clear n0_;(try clear hb);(try clear hb2);(try clear hk);(try clear hi)))
    go_ret
    exact ⟨q1_,bl_⟩
   ·rw [if_neg c7] at H
    have c7b0 : (t277 == 0) = false := beq_eq_false_iff_ne.mpr c7
    have c7b1 : (t277 != 0) = true := bne_iff_ne.mpr c7
    obtain rfl := Option.some.inj H
    go_enter Try.func32,Try.ntmps32
    go_wp2_with (first|((with_reducible refine gate_callee (f := 14) rfl ?_);refine goesL_ (some 11) rfl rfl Try.func14 q9_ rfl #[.string a0] rfl q0_ ?_;(with_reducible refine (snappy_Encode.calls k a0 t274 t275 _ A3.out).mono ?_);rintro e w10 ⟨rfl,hb⟩;refine ⟨_,rfl,?_⟩;have n0_ := Aside0.mk (below_step (bl_) hb);clear HB;have HB := n0_;clear n0_;(try clear hb);(try clear hb2);(try clear hk);(try clear hi))|((with_reducible refine gate_callee (f := 13) rfl ?_);refine goesL_ (some 16) rfl rfl Try.func13 q9_ rfl #[.string a1,.int .i64 100] rfl q0_ ?_;(with_reducible refine (snappy_Decode.calls k a1 100 t276 t277 _ A4.out).mono ?_);rintro e w11 ⟨rfl,hb⟩;refine ⟨_,rfl,?_⟩;have n0_ := Aside0.mk (below_step (bl_) hb);clear HB;have HB := n0_;clear n0_;(try clear hb);(try clear hb2);(try clear hk);(try clear hi)))
    go_ret
    exact ⟨q1_,bl_⟩
  ·rw [if_neg c6] at H
   have c6b0 : (t274.toList == a1.toList) = false := beq_eq_false_iff_ne.mpr c6
   have c6b1 : (t274.toList != a1.toList) = true := bne_iff_ne.mpr c6
   obtain rfl := Option.some.inj H
   go_enter Try.func32,Try.ntmps32
   go_wp2_with (first|((with_reducible refine gate_callee (f := 14) rfl ?_);refine goesL_ (some 11) rfl rfl Try.func14 q9_ rfl #[.string a0] rfl q0_ ?_;(with_reducible refine (snappy_Encode.calls k a0 t274 t275 _ A3.out).mono ?_);rintro e w12 ⟨rfl,hb⟩;refine ⟨_,rfl,?_⟩;have n0_ := Aside0.mk (below_step (bl_) hb);clear HB;have HB := n0_;clear n0_;(try clear hb);(try clear hb2);(try clear hk);(try clear hi))|((with_reducible refine gate_callee (f := 13) rfl ?_);refine goesL_ (some 16) rfl rfl Try.func13 q9_ rfl #[.string a1,.int .i64 100] rfl q0_ ?_;(with_reducible refine (snappy_Decode.calls k a1 100 t276 t277 _ A4.out).mono ?_);rintro e w13 ⟨rfl,hb⟩;refine ⟨_,rfl,?_⟩;have n0_ := Aside0.mk (below_step (bl_) hb);clear HB;have HB := n0_;clear n0_;(try clear hb);(try clear hb2);(try clear hk);(try clear hi)))
   go_ret
   exact ⟨q1_,bl_⟩
 ·rw [if_neg c5] at H
  have c5b0 : (t275 == 0) = false := beq_eq_false_iff_ne.mpr c5
  have c5b1 : (t275 != 0) = true := bne_iff_ne.mpr c5
  obtain rfl := Option.some.inj H
  go_enter Try.func32,Try.ntmps32
  go_wp2_with (first|((with_reducible refine gate_callee (f := 14) rfl ?_);refine goesL_ (some 11) rfl rfl Try.func14 q9_ rfl #[.string a0] rfl q0_ ?_;(with_reducible refine (snappy_Encode.calls k a0 t274 t275 _ A3.out).mono ?_);rintro e w14 ⟨rfl,hb⟩;refine ⟨_,rfl,?_⟩;have n0_ := Aside0.mk (below_step (bl_) hb);clear HB;have HB := n0_;clear n0_;(try clear hb);(try clear hb2);(try clear hk);(try clear hi))|((with_reducible refine gate_callee (f := 13) rfl ?_);refine goesL_ (some 16) rfl rfl Try.func13 q9_ rfl #[.string a1,.int .i64 100] rfl q0_ ?_;(with_reducible refine (snappy_Decode.calls k a1 100 t276 t277 _ A4.out).mono ?_);rintro e w15 ⟨rfl,hb⟩;refine ⟨_,rfl,?_⟩;have n0_ := Aside0.mk (below_step (bl_) hb);clear HB;have HB := n0_;clear n0_;(try clear hb);(try clear hb2);(try clear hk);(try clear hi)))
  go_ret
  exact ⟨q1_,bl_⟩

end Go.Proofs.Ythcjcmgdblhhfaa.PV

/- The machine side of these statements: what each Go function computes as a plain function, and that its call computes just that. Written by a program of mine (wip/drive.py). No conditions. -/
import Derived.Test.YthcjcmgdblhhfaaPVx0
import Derived.Test.YthcjcmgdblhhfaaPVx10
import Derived.Test.YthcjcmgdblhhfaaPVx11
import Derived.Test.YthcjcmgdblhhfaaPVx17
namespace Go.Proofs.Ythcjcmgdblhhfaa.PV
open Go.RowKit Go.Proofs.YthcjcmgdblhhfaaW.PrintWords Go.Proofs.YthcjcmgdblhhfaaW.PrintLast Go.Proofs.YthcjcmgdblhhfaaW.PrintMore
attribute [local go_sem] max2_int min2_int max_two min_two max_three min_three max_four min_four   -- for this text's walks alone
set_option linter.unusedVariables false
set_option linter.unusedSimpArgs false

/-! ### batonlaw03_awake: function 12 -/
def batonlaw03_awake.f (k : Nat)  : Option (Bool) := (snappy_Decode.f k (⟨#[5, 1, 1]⟩ : ByteArray) 100).bind fun bt278 => ((snappy_Match.f k (⟨#[97, 98, 99, 97, 98, 99, 97, 98, 99]⟩ : ByteArray) 3).bind fun bt280 => ((batonlaw03_is.f k (⟨#[]⟩ : ByteArray) (⟨#[0]⟩ : ByteArray)).bind fun t282 => (if t282 = true then ((batonlaw03_is.f k (⟨#[97, 98, 99]⟩ : ByteArray) (⟨#[3, 8, 97, 98, 99]⟩ : ByteArray)).bind fun t283 => (if t283 = true then ((batonlaw03_is.f k (⟨#[97, 98, 99, 97, 98, 99, 97, 98, 99]⟩ : ByteArray) (⟨#[9, 8, 97, 98, 99, 9, 3]⟩ : ByteArray)).bind fun t284 => (if t284 = true then ((batonlaw03_is.f k (⟨#[97, 97, 97, 97, 97, 97, 97, 97, 97, 97]⟩ : ByteArray) (⟨#[10, 0, 97, 21, 1]⟩ : ByteArray)).bind fun t285 => (if t285 = true then (if bt278.2 = 4 then (if bt280.1 = 3 then (some (bt280.2 == 6)) else (some false)) else (some false)) else (some false))) else (some false))) else (some false))) else (some false))))
theorem batonlaw03_awake.mono : ∀ k, LeO (batonlaw03_awake.f k ) (batonlaw03_awake.f (k + 1) ) := by
 intro  k
 unfold batonlaw03_awake.f
 repeat' first
   | (with_reducible exact batonlaw03_is.mono _ _ _)
   | (with_reducible exact snappy_Decode.mono _ _ _)
   | (with_reducible exact snappy_Match.mono _ _ _)
   | (with_reducible exact LeO.refl _)
   | (with_reducible exact LeO.none _)
   | (with_reducible refine LeO.ite ?_ ?_)
   | (with_reducible refine LeO.bind ?_ (fun _=>?_))
   | exact batonlaw03_is.mono _ _ _
   | exact snappy_Decode.mono _ _ _
   | exact snappy_Match.mono _ _ _
   | exact LeO.none _
   | refine LeO.ite ?_ ?_
   | refine LeO.bind ?_ (fun _=>?_)
set_option maxHeartbeats 8000000 in
set_option maxRecDepth 100000 in
theorem batonlaw03_awake.calls (k : Nat)  (r : Bool) (w : World) (h : batonlaw03_awake.f k  = some r) :
  Calls Try.prog 12 #[] w fun e w'=>e = .returned (.bool r) ∧ Below w.heap.size w w' := by
 have HB := Aside0.mk (Below.refl w.heap.size w)
 have H : ((snappy_Decode.f k (⟨#[5,1,1]⟩ : ByteArray) 100).bind fun bt278=>((snappy_Match.f k (⟨#[97,98,99,97,98,99,97,98,99]⟩ : ByteArray) 3).bind fun bt280=>((batonlaw03_is.f k (⟨#[]⟩ : ByteArray) (⟨#[0]⟩ : ByteArray)).bind fun t282=>(if t282 = true then ((batonlaw03_is.f k (⟨#[97,98,99]⟩ : ByteArray) (⟨#[3,8,97,98,99]⟩ : ByteArray)).bind fun t283=>(if t283 = true then ((batonlaw03_is.f k (⟨#[97,98,99,97,98,99,97,98,99]⟩ : ByteArray) (⟨#[9,8,97,98,99,9,3]⟩ : ByteArray)).bind fun t284=>(if t284 = true then ((batonlaw03_is.f k (⟨#[97,97,97,97,97,97,97,97,97,97]⟩ : ByteArray) (⟨#[10,0,97,21,1]⟩ : ByteArray)).bind fun t285=>(if t285 = true then (if bt278.2 = 4 then (if bt280.1 = 3 then (some (bt280.2 == 6)) else (some false)) else (some false)) else (some false))) else (some false))) else (some false))) else (some false))))) = some r := h
 clear h
 replace H := Option.bind_eq_some_iff.mp H
 obtain ⟨⟨t278,t279⟩,A10,H⟩ := H
 replace H : ((snappy_Match.f k (⟨#[97,98,99,97,98,99,97,98,99]⟩ : ByteArray) 3).bind fun bt280=>((batonlaw03_is.f k (⟨#[]⟩ : ByteArray) (⟨#[0]⟩ : ByteArray)).bind fun t282=>(if t282 = true then ((batonlaw03_is.f k (⟨#[97,98,99]⟩ : ByteArray) (⟨#[3,8,97,98,99]⟩ : ByteArray)).bind fun t283=>(if t283 = true then ((batonlaw03_is.f k (⟨#[97,98,99,97,98,99,97,98,99]⟩ : ByteArray) (⟨#[9,8,97,98,99,9,3]⟩ : ByteArray)).bind fun t284=>(if t284 = true then ((batonlaw03_is.f k (⟨#[97,97,97,97,97,97,97,97,97,97]⟩ : ByteArray) (⟨#[10,0,97,21,1]⟩ : ByteArray)).bind fun t285=>(if t285 = true then (if t279 = 4 then (if bt280.1 = 3 then (some (bt280.2 == 6)) else (some false)) else (some false)) else (some false))) else (some false))) else (some false))) else (some false)))) = some r := H
 have A1 := Aside0.mk A10
 clear A10
 replace H := Option.bind_eq_some_iff.mp H
 obtain ⟨⟨t280,t281⟩,A20,H⟩ := H
 replace H : ((batonlaw03_is.f k (⟨#[]⟩ : ByteArray) (⟨#[0]⟩ : ByteArray)).bind fun t282=>(if t282 = true then ((batonlaw03_is.f k (⟨#[97,98,99]⟩ : ByteArray) (⟨#[3,8,97,98,99]⟩ : ByteArray)).bind fun t283=>(if t283 = true then ((batonlaw03_is.f k (⟨#[97,98,99,97,98,99,97,98,99]⟩ : ByteArray) (⟨#[9,8,97,98,99,9,3]⟩ : ByteArray)).bind fun t284=>(if t284 = true then ((batonlaw03_is.f k (⟨#[97,97,97,97,97,97,97,97,97,97]⟩ : ByteArray) (⟨#[10,0,97,21,1]⟩ : ByteArray)).bind fun t285=>(if t285 = true then (if t279 = 4 then (if t280 = 3 then (some (t281 == 6)) else (some false)) else (some false)) else (some false))) else (some false))) else (some false))) else (some false))) = some r := H
 have A2 := Aside0.mk A20
 clear A20
 replace H := Option.bind_eq_some_iff.mp H
 obtain ⟨t282,A30,H⟩ := H
 replace H : (if t282 = true then ((batonlaw03_is.f k (⟨#[97,98,99]⟩ : ByteArray) (⟨#[3,8,97,98,99]⟩ : ByteArray)).bind fun t283=>(if t283 = true then ((batonlaw03_is.f k (⟨#[97,98,99,97,98,99,97,98,99]⟩ : ByteArray) (⟨#[9,8,97,98,99,9,3]⟩ : ByteArray)).bind fun t284=>(if t284 = true then ((batonlaw03_is.f k (⟨#[97,97,97,97,97,97,97,97,97,97]⟩ : ByteArray) (⟨#[10,0,97,21,1]⟩ : ByteArray)).bind fun t285=>(if t285 = true then (if t279 = 4 then (if t280 = 3 then (some (t281 == 6)) else (some false)) else (some false)) else (some false))) else (some false))) else (some false))) else (some false)) = some r := H
 have A3 := Aside0.mk A30
 clear A30
 by_cases c4 : t282 = true
 ·subst c4
  have H1 : ((batonlaw03_is.f k (⟨#[97,98,99]⟩ : ByteArray) (⟨#[3,8,97,98,99]⟩ : ByteArray)).bind fun t283=>(if t283 = true then ((batonlaw03_is.f k (⟨#[97,98,99,97,98,99,97,98,99]⟩ : ByteArray) (⟨#[9,8,97,98,99,9,3]⟩ : ByteArray)).bind fun t284=>(if t284 = true then ((batonlaw03_is.f k (⟨#[97,97,97,97,97,97,97,97,97,97]⟩ : ByteArray) (⟨#[10,0,97,21,1]⟩ : ByteArray)).bind fun t285=>(if t285 = true then (if t279 = 4 then (if t280 = 3 then (some (t281 == 6)) else (some false)) else (some false)) else (some false))) else (some false))) else (some false))) = some r := by rw [if_pos rfl] at H;exact H
  clear H
  have H := H1
  clear H1
  replace H := Option.bind_eq_some_iff.mp H
  obtain ⟨t283,A50,H⟩ := H
  replace H : (if t283 = true then ((batonlaw03_is.f k (⟨#[97,98,99,97,98,99,97,98,99]⟩ : ByteArray) (⟨#[9,8,97,98,99,9,3]⟩ : ByteArray)).bind fun t284=>(if t284 = true then ((batonlaw03_is.f k (⟨#[97,97,97,97,97,97,97,97,97,97]⟩ : ByteArray) (⟨#[10,0,97,21,1]⟩ : ByteArray)).bind fun t285=>(if t285 = true then (if t279 = 4 then (if t280 = 3 then (some (t281 == 6)) else (some false)) else (some false)) else (some false))) else (some false))) else (some false)) = some r := H
  have A5 := Aside0.mk A50
  clear A50
  by_cases c6 : t283 = true
  ·subst c6
   have H1 : ((batonlaw03_is.f k (⟨#[97,98,99,97,98,99,97,98,99]⟩ : ByteArray) (⟨#[9,8,97,98,99,9,3]⟩ : ByteArray)).bind fun t284=>(if t284 = true then ((batonlaw03_is.f k (⟨#[97,97,97,97,97,97,97,97,97,97]⟩ : ByteArray) (⟨#[10,0,97,21,1]⟩ : ByteArray)).bind fun t285=>(if t285 = true then (if t279 = 4 then (if t280 = 3 then (some (t281 == 6)) else (some false)) else (some false)) else (some false))) else (some false))) = some r := by rw [if_pos rfl] at H;exact H
   clear H
   have H := H1
   clear H1
   replace H := Option.bind_eq_some_iff.mp H
   obtain ⟨t284,A70,H⟩ := H
   replace H : (if t284 = true then ((batonlaw03_is.f k (⟨#[97,97,97,97,97,97,97,97,97,97]⟩ : ByteArray) (⟨#[10,0,97,21,1]⟩ : ByteArray)).bind fun t285=>(if t285 = true then (if t279 = 4 then (if t280 = 3 then (some (t281 == 6)) else (some false)) else (some false)) else (some false))) else (some false)) = some r := H
   have A7 := Aside0.mk A70
   clear A70
   by_cases c8 : t284 = true
   ·subst c8
    have H1 : ((batonlaw03_is.f k (⟨#[97,97,97,97,97,97,97,97,97,97]⟩ : ByteArray) (⟨#[10,0,97,21,1]⟩ : ByteArray)).bind fun t285=>(if t285 = true then (if t279 = 4 then (if t280 = 3 then (some (t281 == 6)) else (some false)) else (some false)) else (some false))) = some r := by rw [if_pos rfl] at H;exact H
    clear H
    have H := H1
    clear H1
    replace H := Option.bind_eq_some_iff.mp H
    obtain ⟨t285,A90,H⟩ := H
    replace H : (if t285 = true then (if t279 = 4 then (if t280 = 3 then (some (t281 == 6)) else (some false)) else (some false)) else (some false)) = some r := H
    have A9 := Aside0.mk A90
    clear A90
    by_cases c10 : t285 = true
    ·subst c10
     have H1 : (if t279 = 4 then (if t280 = 3 then (some (t281 == 6)) else (some false)) else (some false)) = some r := by rw [if_pos rfl] at H;exact H
     clear H
     have H := H1
     clear H1
     by_cases c11 : t279 = 4
     ·rw [if_pos c11] at H
      have c11b0 : (t279 == 4) = true := beq_iff_eq.mpr c11
      have c11b1 : (t279 != 4) = false := bne_eq_false_iff_eq.mpr c11
      clear c11
      by_cases c12 : t280 = 3
      ·rw [if_pos c12] at H
       have c12b0 : (t280 == 3) = true := beq_iff_eq.mpr c12
       have c12b1 : (t280 != 3) = false := bne_eq_false_iff_eq.mpr c12
       clear c12
       obtain rfl := Option.some.inj H
       go_enter Try.func12,Try.ntmps12
       go_wp2_with (first|((with_reducible refine gate_callee (f := 13) rfl ?_);refine goesL_ (some 6) rfl rfl Try.func13 q9_ rfl #[.string (⟨#[5,1,1]⟩ : ByteArray),.int .i64 100] rfl q0_ ?_;(with_reducible refine (snappy_Decode.calls k (⟨#[5,1,1]⟩ : ByteArray) 100 t278 t279 _ A1.out).mono ?_);rintro e w13 ⟨rfl,hb⟩;refine ⟨_,rfl,?_⟩;have n0_ := Aside0.mk (below_step (bl_) hb);clear HB;have HB := n0_;clear n0_;(try clear hb);(try clear hb2);(try clear hk);(try clear hi))|((with_reducible refine gate_callee (f := 18) rfl ?_);refine goesL_ (some 10) rfl rfl Try.func18 q9_ rfl #[.string (⟨#[97,98,99,97,98,99,97,98,99]⟩ : ByteArray),.int .i64 3] rfl q0_ ?_;(with_reducible refine (snappy_Match.calls k (⟨#[97,98,99,97,98,99,97,98,99]⟩ : ByteArray) 3 t280 t281 _ A2.out).mono ?_);rintro e w14 ⟨rfl,hb⟩;refine ⟨_,rfl,?_⟩;have n0_ := Aside0.mk (below_step (bl_) hb);clear HB;have HB := n0_;clear n0_;(try clear hb);(try clear hb2);(try clear hk);(try clear hi))|((with_reducible refine gate_callee (f := 32) rfl ?_);refine goesL_ (some 13) rfl rfl Try.func32 q9_ rfl #[.string (⟨#[]⟩ : ByteArray),.string (⟨#[0]⟩ : ByteArray)] rfl q0_ ?_;(with_reducible refine (batonlaw03_is.calls k (⟨#[]⟩ : ByteArray) (⟨#[0]⟩ : ByteArray) true _ A3.out).mono ?_);rintro e w15 ⟨rfl,hb⟩;refine ⟨_,rfl,?_⟩;have n0_ := Aside0.mk (below_step (bl_) hb);clear HB;have HB := n0_;clear n0_;(try clear hb);(try clear hb2);(try clear hk);(try clear hi))|(go_at_call 32;(with_reducible refine (batonlaw03_is.calls k (⟨#[97,98,99]⟩ : ByteArray) (⟨#[3,8,97,98,99]⟩ : ByteArray) true _ A5.out).mono ?_);rintro e w16 ⟨rfl,hb⟩;have n0_ := Aside0.mk (below_step (bl_) hb);clear HB;have HB := n0_;clear n0_;(try clear hb);(try clear hb2);(try clear hk);(try clear hi))|(go_at_call 32;(with_reducible refine (batonlaw03_is.calls k (⟨#[97,98,99,97,98,99,97,98,99]⟩ : ByteArray) (⟨#[9,8,97,98,99,9,3]⟩ : ByteArray) true _ A7.out).mono ?_);rintro e w17 ⟨rfl,hb⟩;have n0_ := Aside0.mk (below_step (bl_) hb);clear HB;have HB := n0_;clear n0_;(try clear hb);(try clear hb2);(try clear hk);(try clear hi))|(go_at_call 32;(with_reducible refine (batonlaw03_is.calls k (⟨#[97,97,97,97,97,97,97,97,97,97]⟩ : ByteArray) (⟨#[10,0,97,21,1]⟩ : ByteArray) true _ A9.out).mono ?_);rintro e w18 ⟨rfl,hb⟩;have n0_ := Aside0.mk (below_step (bl_) hb);clear HB;have HB := n0_;clear n0_;(try clear hb);(try clear hb2);(try clear hk);(try clear hi)))
       go_ret
       exact ⟨q1_,bl_⟩
      ·rw [if_neg c12] at H
       have c12b0 : (t280 == 3) = false := beq_eq_false_iff_ne.mpr c12
       have c12b1 : (t280 != 3) = true := bne_iff_ne.mpr c12
       obtain rfl := Option.some.inj H
       go_enter Try.func12,Try.ntmps12
       go_wp2_with (first|((with_reducible refine gate_callee (f := 13) rfl ?_);refine goesL_ (some 6) rfl rfl Try.func13 q9_ rfl #[.string (⟨#[5,1,1]⟩ : ByteArray),.int .i64 100] rfl q0_ ?_;(with_reducible refine (snappy_Decode.calls k (⟨#[5,1,1]⟩ : ByteArray) 100 t278 t279 _ A1.out).mono ?_);rintro e w19 ⟨rfl,hb⟩;refine ⟨_,rfl,?_⟩;have n0_ := Aside0.mk (below_step (bl_) hb);clear HB;have HB := n0_;clear n0_;(try clear hb);(try clear hb2);(try clear hk);(try clear hi))|((with_reducible refine gate_callee (f := 18) rfl ?_);refine goesL_ (some 10) rfl rfl Try.func18 q9_ rfl #[.string (⟨#[97,98,99,97,98,99,97,98,99]⟩ : ByteArray),.int .i64 3] rfl q0_ ?_;(with_reducible refine (snappy_Match.calls k (⟨#[97,98,99,97,98,99,97,98,99]⟩ : ByteArray) 3 t280 t281 _ A2.out).mono ?_);rintro e w20 ⟨rfl,hb⟩;refine ⟨_,rfl,?_⟩;have n0_ := Aside0.mk (below_step (bl_) hb);clear HB;have HB := n0_;clear n0_;(try clear hb);(try clear hb2);(try clear hk);(try clear hi))|((with_reducible refine gate_callee (f := 32) rfl ?_);refine goesL_ (some 13) rfl rfl Try.func32 q9_ rfl #[.string (⟨#[]⟩ : ByteArray),.string (⟨#[0]⟩ : ByteArray)] rfl q0_ ?_;(with_reducible refine (batonlaw03_is.calls k (⟨#[]⟩ : ByteArray) (⟨#[0]⟩ : ByteArray) true _ A3.out).mono ?_);rintro e w21 ⟨rfl,hb⟩;refine ⟨_,rfl,?_⟩;have n0_ := Aside0.mk (below_step (bl_) hb);clear HB;have HB := n0_;clear n0_;(try clear hb);(try clear hb2);(try clear hk);(try clear hi))|(go_at_call 32;(with_reducible refine (batonlaw03_is.calls k (⟨#[97,98,99]⟩ : ByteArray) (⟨#[3,8,97,98,99]⟩ : ByteArray) true _ A5.out).mono ?_);rintro e w22 ⟨rfl,hb⟩;have n0_ := Aside0.mk (below_step (bl_) hb);clear HB;have HB := n0_;clear n0_;(try clear hb);(try clear hb2);(try clear hk);(try clear hi))|(go_at_call 32;(with_reducible refine (batonlaw03_is.calls k (⟨#[97,98,99,97,98,99,97,98,99]⟩ : ByteArray) (⟨#[9,8,97,98,99,9,3]⟩ : ByteArray) true _ A7.out).mono ?_);rintro e w23 ⟨rfl,hb⟩;have n0_ := Aside0.mk (below_step (bl_) hb);clear HB;have HB := n0_;clear n0_;(try clear hb);(try clear hb2);(try clear hk);(try clear hi))|(go_at_call 32;(with_reducible refine (batonlaw03_is.calls k (⟨#[97,97,97,97,97,97,97,97,97,97]⟩ : ByteArray) (⟨#[10,0,97,21,1]⟩ : ByteArray) true _ A9.out).mono ?_);rintro e w24 ⟨rfl,hb⟩;have n0_ := Aside0.mk (below_step (bl_) hb);clear HB;have HB := n0_;clear n0_;(try clear hb);(try clear hb2);(try clear hk);(try clear hi)))
       go_ret
       exact ⟨q1_,bl_⟩
     ·rw [if_neg c11] at H
      have c11b0 : (t279 == 4) = false := beq_eq_false_iff_ne.mpr c11
      have c11b1 : (t279 != 4) = true := bne_iff_ne.mpr c11
      obtain rfl := Option.some.inj H
      go_enter Try.func12,Try.ntmps12
      go_wp2_with (first|((with_reducible refine gate_callee (f := 13) rfl ?_);refine goesL_ (some 6) rfl rfl Try.func13 q9_ rfl #[.string (⟨#[5,1,1]⟩ : ByteArray),.int .i64 100] rfl q0_ ?_;(with_reducible refine (snappy_Decode.calls k (⟨#[5,1,1]⟩ : ByteArray) 100 t278 t279 _ A1.out).mono ?_);rintro e w25 ⟨rfl,hb⟩;refine ⟨_,rfl,?_⟩;have n0_ := Aside0.mk (below_step (bl_) hb);clear HB;have HB := n0_;clear n0_;(try clear hb);(try clear hb2);(try clear hk);(try clear hi))|((with_reducible refine gate_callee (f := 18) rfl ?_);refine goesL_ (some 10) rfl rfl Try.func18 q9_ rfl #[.string (⟨#[97,98,99,97,98,99,97,98,99]⟩ : ByteArray),.int .i64 3] rfl q0_ ?_;(with_reducible refine (snappy_Match.calls k (⟨#[97,98,99,97,98,99,97,98,99]⟩ : ByteArray) 3 t280 t281 _ A2.out).mono ?_);rintro e w26 ⟨rfl,hb⟩;refine ⟨_,rfl,?_⟩;have n0_ := Aside0.mk (below_step (bl_) hb);clear HB;have HB := n0_;clear n0_;(try clear hb);(try clear hb2);(try clear hk);(try clear hi))|((with_reducible refine gate_callee (f := 32) rfl ?_);refine goesL_ (some 13) rfl rfl Try.func32 q9_ rfl #[.string (⟨#[]⟩ : ByteArray),.string (⟨#[0]⟩ : ByteArray)] rfl q0_ ?_;(with_reducible refine (batonlaw03_is.calls k (⟨#[]⟩ : ByteArray) (⟨#[0]⟩ : ByteArray) true _ A3.out).mono ?_);rintro e w27 ⟨rfl,hb⟩;refine ⟨_,rfl,?_⟩;have n0_ := Aside0.mk (below_step (bl_) hb);clear HB;have HB := n0_;clear n0_;(try clear hb);(try clear hb2);(try clear hk);(try clear hi))|(go_at_call 32;(with_reducible refine (batonlaw03_is.calls k (⟨#[97,98,99]⟩ : ByteArray) (⟨#[3,8,97,98,99]⟩ : ByteArray) true _ A5.out).mono ?_);rintro e w28 ⟨rfl,hb⟩;have n0_ := Aside0.mk (below_step (bl_) hb);clear HB;have HB := n0_;clear n0_;(try clear hb);(try clear hb2);(try clear hk);(try clear hi))|(go_at_call 32;(with_reducible refine (batonlaw03_is.calls k (⟨#[97,98,99,97,98,99,97,98,99]⟩ : ByteArray) (⟨#[9,8,97,98,99,9,3]⟩ : ByteArray) true _ A7.out).mono ?_);rintro e w29 ⟨rfl,hb⟩;have n0_ := Aside0.mk (below_step (bl_) hb);clear HB;have HB := n0_;clear n0_;(try clear hb);(try clear hb2);(try clear hk);(try clear hi))|(go_at_call 32;(with_reducible refine (batonlaw03_is.calls k (⟨#[97,97,97,97,97,97,97,97,97,97]⟩ : ByteArray) (⟨#[10,0,97,21,1]⟩ : ByteArray) true _ A9.out).mono ?_);rintro e w30 ⟨rfl,hb⟩;have n0_ := Aside0.mk (below_step (bl_) hb);clear HB;have HB := n0_;clear n0_;(try clear hb);(try clear hb2);(try clear hk);(try clear hi)))
      go_ret
      exact ⟨q1_,bl_⟩
    ·replace c10 := Bool.eq_false_iff.mpr c10
     subst c10
     have H1 : (some false) = some r := by rw [if_neg (show ¬ (false = true) by decide)] at H;exact H
     clear H
     have H := H1
     clear H1
     obtain rfl := Option.some.inj H
     go_enter Try.func12,Try.ntmps12
     go_wp2_with (first|((with_reducible refine gate_callee (f := 13) rfl ?_);refine goesL_ (some 6) rfl rfl Try.func13 q9_ rfl #[.string (⟨#[5,1,1]⟩ : ByteArray),.int .i64 100] rfl q0_ ?_;(with_reducible refine (snappy_Decode.calls k (⟨#[5,1,1]⟩ : ByteArray) 100 t278 t279 _ A1.out).mono ?_);rintro e w31 ⟨rfl,hb⟩;refine ⟨_,rfl,?_⟩;have n0_ := Aside0.mk (below_step (bl_) hb);clear HB;have HB := n0_;clear n0_;(try clear hb);(try clear hb2);(try clear hk);(try clear hi))|((with_reducible refine gate_callee (f := 18) rfl ?_);refine goesL_ (some 10) rfl rfl Try.func18 q9_ rfl #[.string (⟨#[97,98,99,97,98,99,97,98,99]⟩ : ByteArray),.int .i64 3] rfl q0_ ?_;(with_reducible refine (snappy_Match.calls k (⟨#[97,98,99,97,98,99,97,98,99]⟩ : ByteArray) 3 t280 t281 _ A2.out).mono ?_);rintro e w32 ⟨rfl,hb⟩;refine ⟨_,rfl,?_⟩;have n0_ := Aside0.mk (below_step (bl_) hb);clear HB;have HB := n0_;clear n0_;(try clear hb);(try clear hb2);(try clear hk);(try clear hi))|((with_reducible refine gate_callee (f := 32) rfl ?_);refine goesL_ (some 13) rfl rfl Try.func32 q9_ rfl #[.string (⟨#[]⟩ : ByteArray),.string (⟨#[0]⟩ : ByteArray)] rfl q0_ ?_;(with_reducible refine (batonlaw03_is.calls k (⟨#[]⟩ : ByteArray) (⟨#[0]⟩ : ByteArray) true _ A3.out).mono ?_);rintro e w33 ⟨rfl,hb⟩;refine ⟨_,rfl,?_⟩;have n0_ := Aside0.mk (below_step (bl_) hb);clear HB;have HB := n0_;clear n0_;(try clear hb);(try clear hb2);(try clear hk);(try clear hi))|(go_at_call 32;(with_reducible refine (batonlaw03_is.calls k (⟨#[97,98,99]⟩ : ByteArray) (⟨#[3,8,97,98,99]⟩ : ByteArray) true _ A5.out).mono ?_);rintro e w34 ⟨rfl,hb⟩;have n0_ := Aside0.mk (below_step (bl_) hb);clear HB;have HB := n0_;clear n0_;(try clear hb);(try clear hb2);(try clear hk);(try clear hi))|(go_at_call 32;(with_reducible refine (batonlaw03_is.calls k (⟨#[97,98,99,97,98,99,97,98,99]⟩ : ByteArray) (⟨#[9,8,97,98,99,9,3]⟩ : ByteArray) true _ A7.out).mono ?_);rintro e w35 ⟨rfl,hb⟩;have n0_ := Aside0.mk (below_step (bl_) hb);clear HB;have HB := n0_;clear n0_;(try clear hb);(try clear hb2);(try clear hk);(try clear hi))|(go_at_call 32;(with_reducible refine (batonlaw03_is.calls k (⟨#[97,97,97,97,97,97,97,97,97,97]⟩ : ByteArray) (⟨#[10,0,97,21,1]⟩ : ByteArray) false _ A9.out).mono ?_);rintro e w36 ⟨rfl,hb⟩;have n0_ := Aside0.mk (below_step (bl_) hb);clear HB;have HB := n0_;clear n0_;(try clear hb);(try clear hb2);(try clear hk);(try clear hi)))
     go_ret
     exact ⟨q1_,bl_⟩
   ·replace c8 := Bool.eq_false_iff.mpr c8
    subst c8
    have H1 : (some false) = some r := by rw [if_neg (show ¬ (false = true) by decide)] at H;exact H
    clear H
    have H := H1
    clear H1
    obtain rfl := Option.some.inj H
    go_enter Try.func12,Try.ntmps12
    go_wp2_with (first|((with_reducible refine gate_callee (f := 13) rfl ?_);refine goesL_ (some 6) rfl rfl Try.func13 q9_ rfl #[.string (⟨#[5,1,1]⟩ : ByteArray),.int .i64 100] rfl q0_ ?_;(with_reducible refine (snappy_Decode.calls k (⟨#[5,1,1]⟩ : ByteArray) 100 t278 t279 _ A1.out).mono ?_);rintro e w37 ⟨rfl,hb⟩;refine ⟨_,rfl,?_⟩;have n0_ := Aside0.mk (below_step (bl_) hb);clear HB;have HB := n0_;clear n0_;(try clear hb);(try clear hb2);(try clear hk);(try clear hi))|((with_reducible refine gate_callee (f := 18) rfl ?_);refine goesL_ (some 10) rfl rfl Try.func18 q9_ rfl #[.string (⟨#[97,98,99,97,98,99,97,98,99]⟩ : ByteArray),.int .i64 3] rfl q0_ ?_;(with_reducible refine (snappy_Match.calls k (⟨#[97,98,99,97,98,99,97,98,99]⟩ : ByteArray) 3 t280 t281 _ A2.out).mono ?_);rintro e w38 ⟨rfl,hb⟩;refine ⟨_,rfl,?_⟩;have n0_ := Aside0.mk (below_step (bl_) hb);clear HB;have HB := n0_;clear n0_;(try clear hb);(try clear hb2);(try clear hk);(try clear hi))|((with_reducible refine gate_callee (f := 32) rfl ?_);refine goesL_ (some 13) rfl rfl Try.func32 q9_ rfl #[.string (⟨#[]⟩ : ByteArray),.string (⟨#[0]⟩ : ByteArray)] rfl q0_ ?_;(with_reducible refine (batonlaw03_is.calls k (⟨#[]⟩ : ByteArray) (⟨#[0]⟩ : ByteArray) true _ A3.out).mono ?_);rintro e w39 ⟨rfl,hb⟩;refine ⟨_,rfl,?_⟩;have n0_ := Aside0.mk (below_step (bl_) hb);clear HB;have HB := n0_;clear n0_;(try clear hb);(try clear hb2);(try clear hk);(try clear hi))|(go_at_call 32;(with_reducible refine (batonlaw03_is.calls k (⟨#[97,98,99]⟩ : ByteArray) (⟨#[3,8,97,98,99]⟩ : ByteArray) true _ A5.out).mono ?_);rintro e w40 ⟨rfl,hb⟩;have n0_ := Aside0.mk (below_step (bl_) hb);clear HB;have HB := n0_;clear n0_;(try clear hb);(try clear hb2);(try clear hk);(try clear hi))|(go_at_call 32;(with_reducible refine (batonlaw03_is.calls k (⟨#[97,98,99,97,98,99,97,98,99]⟩ : ByteArray) (⟨#[9,8,97,98,99,9,3]⟩ : ByteArray) false _ A7.out).mono ?_);rintro e w41 ⟨rfl,hb⟩;have n0_ := Aside0.mk (below_step (bl_) hb);clear HB;have HB := n0_;clear n0_;(try clear hb);(try clear hb2);(try clear hk);(try clear hi)))
    go_ret
    exact ⟨q1_,bl_⟩
  ·replace c6 := Bool.eq_false_iff.mpr c6
   subst c6
   have H1 : (some false) = some r := by rw [if_neg (show ¬ (false = true) by decide)] at H;exact H
   clear H
   have H := H1
   clear H1
   obtain rfl := Option.some.inj H
   go_enter Try.func12,Try.ntmps12
   go_wp2_with (first|((with_reducible refine gate_callee (f := 13) rfl ?_);refine goesL_ (some 6) rfl rfl Try.func13 q9_ rfl #[.string (⟨#[5,1,1]⟩ : ByteArray),.int .i64 100] rfl q0_ ?_;(with_reducible refine (snappy_Decode.calls k (⟨#[5,1,1]⟩ : ByteArray) 100 t278 t279 _ A1.out).mono ?_);rintro e w42 ⟨rfl,hb⟩;refine ⟨_,rfl,?_⟩;have n0_ := Aside0.mk (below_step (bl_) hb);clear HB;have HB := n0_;clear n0_;(try clear hb);(try clear hb2);(try clear hk);(try clear hi))|((with_reducible refine gate_callee (f := 18) rfl ?_);refine goesL_ (some 10) rfl rfl Try.func18 q9_ rfl #[.string (⟨#[97,98,99,97,98,99,97,98,99]⟩ : ByteArray),.int .i64 3] rfl q0_ ?_;(with_reducible refine (snappy_Match.calls k (⟨#[97,98,99,97,98,99,97,98,99]⟩ : ByteArray) 3 t280 t281 _ A2.out).mono ?_);rintro e w43 ⟨rfl,hb⟩;refine ⟨_,rfl,?_⟩;have n0_ := Aside0.mk (below_step (bl_) hb);clear HB;have HB := n0_;clear n0_;(try clear hb);(try clear hb2);(try clear hk);(try clear hi))|((with_reducible refine gate_callee (f := 32) rfl ?_);refine goesL_ (some 13) rfl rfl Try.func32 q9_ rfl #[.string (⟨#[]⟩ : ByteArray),.string (⟨#[0]⟩ : ByteArray)] rfl q0_ ?_;(with_reducible refine (batonlaw03_is.calls k (⟨#[]⟩ : ByteArray) (⟨#[0]⟩ : ByteArray) true _ A3.out).mono ?_);rintro e w44 ⟨rfl,hb⟩;refine ⟨_,rfl,?_⟩;have n0_ := Aside0.mk (below_step (bl_) hb);clear HB;have HB := n0_;clear n0_;(try clear hb);(try clear hb2);(try clear hk);(try clear hi))|(go_at_call 32;(with_reducible refine (batonlaw03_is.calls k (⟨#[97,98,99]⟩ : ByteArray) (⟨#[3,8,97,98,99]⟩ : ByteArray) false _ A5.out).mono ?_);rintro e w45 ⟨rfl,hb⟩;have n0_ := Aside0.mk (below_step (bl_) hb);clear HB;have HB := n0_;clear n0_;(try clear hb);(try clear hb2);(try clear hk);(try clear hi)))
   go_ret
   exact ⟨q1_,bl_⟩
 ·replace c4 := Bool.eq_false_iff.mpr c4
  subst c4
  have H1 : (some false) = some r := by rw [if_neg (show ¬ (false = true) by decide)] at H;exact H
  clear H
  have H := H1
  clear H1
  obtain rfl := Option.some.inj H
  go_enter Try.func12,Try.ntmps12
  go_wp2_with (first|((with_reducible refine gate_callee (f := 13) rfl ?_);refine goesL_ (some 6) rfl rfl Try.func13 q9_ rfl #[.string (⟨#[5,1,1]⟩ : ByteArray),.int .i64 100] rfl q0_ ?_;(with_reducible refine (snappy_Decode.calls k (⟨#[5,1,1]⟩ : ByteArray) 100 t278 t279 _ A1.out).mono ?_);rintro e w46 ⟨rfl,hb⟩;refine ⟨_,rfl,?_⟩;have n0_ := Aside0.mk (below_step (bl_) hb);clear HB;have HB := n0_;clear n0_;(try clear hb);(try clear hb2);(try clear hk);(try clear hi))|((with_reducible refine gate_callee (f := 18) rfl ?_);refine goesL_ (some 10) rfl rfl Try.func18 q9_ rfl #[.string (⟨#[97,98,99,97,98,99,97,98,99]⟩ : ByteArray),.int .i64 3] rfl q0_ ?_;(with_reducible refine (snappy_Match.calls k (⟨#[97,98,99,97,98,99,97,98,99]⟩ : ByteArray) 3 t280 t281 _ A2.out).mono ?_);rintro e w47 ⟨rfl,hb⟩;refine ⟨_,rfl,?_⟩;have n0_ := Aside0.mk (below_step (bl_) hb);clear HB;have HB := n0_;clear n0_;(try clear hb);(try clear hb2);(try clear hk);(try clear hi))|((with_reducible refine gate_callee (f := 32) rfl ?_);refine goesL_ (some 13) rfl rfl Try.func32 q9_ rfl #[.string (⟨#[]⟩ : ByteArray),.string (⟨#[0]⟩ : ByteArray)] rfl q0_ ?_;(with_reducible refine (batonlaw03_is.calls k (⟨#[]⟩ : ByteArray) (⟨#[0]⟩ : ByteArray) false _ A3.out).mono ?_);rintro e w48 ⟨rfl,hb⟩;refine ⟨_,rfl,?_⟩;have n0_ := Aside0.mk (below_step (bl_) hb);clear HB;have HB := n0_;clear n0_;(try clear hb);(try clear hb2);(try clear hk);(try clear hi)))
  go_ret
  exact ⟨q1_,bl_⟩

end Go.Proofs.Ythcjcmgdblhhfaa.PV

/- The machine side of these statements: what each Go function computes as a plain function, and that its call computes just that. Written by a program of mine (wip/drive.py). No conditions. -/
import Derived.Test.YthcjcmgdblhhfaaPVx0
import Derived.Test.YthcjcmgdblhhfaaPVx27
import Derived.Test.YthcjcmgdblhhfaaPVx31
namespace Go.Proofs.Ythcjcmgdblhhfaa.PV
open Go.RowKit Go.Proofs.YthcjcmgdblhhfaaW.PrintWords Go.Proofs.YthcjcmgdblhhfaaW.PrintLast Go.Proofs.YthcjcmgdblhhfaaW.PrintMore
attribute [local go_sem] max2_int min2_int max_two min_two max_three min_three max_four min_four   -- for this text's walks alone
set_option linter.unusedVariables false
set_option linter.unusedSimpArgs false

/-! ### batonref03_Encode: function 26 -/
def batonref03_Encode.f (k : Nat) (a0 : ByteArray) : Option (ByteArray × Int) := (batonref03_Pack.f k a0).bind fun bt415 => (if bt415.2 = 0 then ((batonref03_Write.f k bt415.1).bind fun bt419 => (some (bt419.1, bt419.2))) else (some ((⟨#[]⟩ : ByteArray), bt415.2)))
theorem batonref03_Encode.mono : ∀ a0 k, LeO (batonref03_Encode.f k a0) (batonref03_Encode.f (k + 1) a0) := by
 intro a0 k
 unfold batonref03_Encode.f
 repeat' first
   | (with_reducible exact batonref03_Pack.mono _ _)
   | (with_reducible exact batonref03_Write.mono _ _)
   | (with_reducible exact LeO.refl _)
   | (with_reducible exact LeO.none _)
   | (with_reducible refine LeO.ite ?_ ?_)
   | (with_reducible refine LeO.bind ?_ (fun _=>?_))
   | exact batonref03_Pack.mono _ _
   | exact batonref03_Write.mono _ _
   | exact LeO.none _
   | refine LeO.ite ?_ ?_
   | refine LeO.bind ?_ (fun _=>?_)
set_option maxHeartbeats 8000000 in
set_option maxRecDepth 100000 in
theorem batonref03_Encode.calls (k : Nat) (a0 : ByteArray) (r1 : ByteArray) (r2 : Int) (w : World) (h : batonref03_Encode.f k a0 = some (r1, r2)) :
  Calls Try.prog 26 #[.string a0] w fun e w'=>e = .returned (.tuple #[.string r1,.int .i64 r2]) ∧ Below w.heap.size w w' := by
 have HB := Aside0.mk (Below.refl w.heap.size w)
 have H : ((batonref03_Pack.f k a0).bind fun bt415=>(if bt415.2 = 0 then ((batonref03_Write.f k bt415.1).bind fun bt419=>(some (bt419.1,bt419.2))) else (some ((⟨#[]⟩ : ByteArray),bt415.2)))) = some (r1,r2) := h
 clear h
 replace H := Option.bind_eq_some_iff.mp H
 obtain ⟨⟨t415,t416⟩,A20,H⟩ := H
 replace H : (if t416 = 0 then ((batonref03_Write.f k t415).bind fun bt419=>(some (bt419.1,bt419.2))) else (some ((⟨#[]⟩ : ByteArray),t416))) = some (r1,r2) := H
 have A2 := Aside0.mk A20
 clear A20
 by_cases c3 : t416 = 0
 ·rw [if_pos c3] at H
  have c3b0 : (t416 == 0) = true := beq_iff_eq.mpr c3
  have c3b1 : (t416 != 0) = false := bne_eq_false_iff_eq.mpr c3
  clear c3
  replace H := Option.bind_eq_some_iff.mp H
  obtain ⟨⟨t419,t420⟩,A40,H⟩ := H
  replace H : (some (t419,t420)) = some (r1,r2) := H
  have A4 := Aside0.mk A40
  clear A40
  simp only [Option.some.injEq,Prod.mk.injEq] at H
  obtain ⟨rfl,rfl⟩ := H
  go_enter Try.func26,Try.ntmps26
  go_wp2_with (first|((with_reducible refine gate_callee (f := 25) rfl ?_);refine goesL_ (some 8) rfl rfl Try.func25 q9_ rfl #[.string a0] rfl q0_ ?_;(with_reducible refine (batonref03_Pack.calls k a0 t415 t416 _ A2.out).mono ?_);rintro e w5 ⟨v417,rfl,ho0,hb⟩;refine ⟨_,rfl,?_⟩;have n0_ := Aside0.mk (Kd.R_lower ho0 (below_size (bl_)));have n1_ := Aside0.mk (below_step (bl_) hb);clear HB;have HO418 := n0_;have HB := n1_;clear n0_ n1_;(try clear hb);(try clear hb2);(try clear hk);(try clear hi);(try clear ho0);obtain ⟨Ao6,co6,eo6⟩ := Kd.R_slice HO418.out;subst eo6)|((with_reducible refine gate_callee (f := 22) rfl ?_);refine goesL_ (some 15) rfl rfl Try.func22 q9_ rfl #[.slice Ao6 t415.length co6] rfl q0_ ?_;(with_reducible refine (batonref03_Write.calls k _ _ t415 t419 t420 _ ?side1 ?side2 A4.out).mono ?_);(case side1=>repeat (first|exact (Kd.R_reads' HO418.out).2.2|(with_reducible refine Kd.C_alloc ?_ _)|(with_reducible refine Kd.C_drewN ?_ _)|(with_reducible refine Kd.C_drew ?_)));(case side2=>exact (Kd.R_reads' HO418.out).2.1);rintro e w7 ⟨rfl,hb⟩;refine ⟨_,rfl,?_⟩;have n0_ := Aside0.mk (Kd.R_below (by (with_reducible repeat (first|apply Kd.R_alloc|apply Kd.R_drewN|apply Kd.R_drew));exact HO418.out) hb);have n1_ := Aside0.mk (below_step (bl_) hb);clear HO418;clear HB;have HO418 := n0_;have HB := n1_;clear n0_ n1_;(try clear hb);(try clear hb2);(try clear hk);(try clear hi)))
  go_ret2
  exact ⟨q1_,bl_⟩
 ·rw [if_neg c3] at H
  have c3b0 : (t416 == 0) = false := beq_eq_false_iff_ne.mpr c3
  have c3b1 : (t416 != 0) = true := bne_iff_ne.mpr c3
  simp only [Option.some.injEq,Prod.mk.injEq] at H
  obtain ⟨rfl,rfl⟩ := H
  go_enter Try.func26,Try.ntmps26
  go_wp2_with (first|((with_reducible refine gate_callee (f := 25) rfl ?_);refine goesL_ (some 8) rfl rfl Try.func25 q9_ rfl #[.string a0] rfl q0_ ?_;(with_reducible refine (batonref03_Pack.calls k a0 t415 t416 _ A2.out).mono ?_);rintro e w8 ⟨v417,rfl,ho0,hb⟩;refine ⟨_,rfl,?_⟩;have n0_ := Aside0.mk (Kd.R_lower ho0 (below_size (bl_)));have n1_ := Aside0.mk (below_step (bl_) hb);clear HB;have HO418 := n0_;have HB := n1_;clear n0_ n1_;(try clear hb);(try clear hb2);(try clear hk);(try clear hi);(try clear ho0)))
  go_ret2
  exact ⟨q1_,bl_⟩

end Go.Proofs.Ythcjcmgdblhhfaa.PV

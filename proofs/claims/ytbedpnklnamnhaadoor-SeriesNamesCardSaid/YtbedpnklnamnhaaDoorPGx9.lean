/- The machine side of these statements: what each Go function computes as a plain function, and that its call computes just that. Written by a program of mine (wip/drive.py). No conditions. -/
import Derived.Test.YtbedpnklnamnhaaDoorPGx0
import Derived.Test.YtbedpnklnamnhaaDoorPGx4
import Derived.Test.YtbedpnklnamnhaaDoorPGx8
namespace Go.Proofs.YtbedpnklnamnhaaDoor.PG
open Go.RowKit Go.Proofs.YtbedpnklnamnhaaDoorW.PrintWords Go.Proofs.YtbedpnklnamnhaaDoorW.PrintLast Go.Proofs.YtbedpnklnamnhaaDoorW.PrintMore
attribute [local go_sem] max2_int min2_int max_two min_two max_three min_three max_four min_four   -- for this text's walks alone
set_option linter.unusedVariables false
set_option linter.unusedSimpArgs false

/-! ### series_Judge: function 19 -/
def series_Judge.f (k : Nat) (l0 : List (S40)) (a1_0 : Int) (a1_1 : Int) : Option (Int × Int) := (series_May.f k l0).bind fun t130 => (if t130 = true then ((series_judge.f k l0 a1_0 a1_1).bind fun t131 => (some (t131, 0))) else (some (0, 4)))
theorem series_Judge.mono : ∀ a0 a1 a2 k, LeO (series_Judge.f k a0 a1 a2) (series_Judge.f (k + 1) a0 a1 a2) := by
 intro a0 a1 a2 k
 unfold series_Judge.f
 repeat' first
   | (with_reducible exact series_May.mono _ _)
   | (with_reducible exact series_judge.mono _ _ _ _)
   | (with_reducible exact LeO.refl _)
   | (with_reducible exact LeO.none _)
   | (with_reducible refine LeO.ite ?_ ?_)
   | (with_reducible refine LeO.bind ?_ (fun _=>?_))
   | exact series_May.mono _ _
   | exact series_judge.mono _ _ _ _
   | exact LeO.none _
   | refine LeO.ite ?_ ?_
   | refine LeO.bind ?_ (fun _=>?_)
set_option maxHeartbeats 8000000 in
set_option maxRecDepth 100000 in
theorem series_Judge.calls (k : Nat) (A0 : Option Addr) (c0 : Nat) (l0 : List (S40)) (a1_0 : Int) (a1_1 : Int) (r1 : Int) (r2 : Int) (w : World) (hr0 : Kd.C k40 w A0 l0.length l0) (hc0 : l0.length ≤ c0) (h : series_Judge.f k l0 a1_0 a1_1 = some (r1, r2)) :
  Calls Tryd.prog 19 #[.slice A0 l0.length c0,.agg #[.int .i64 a1_0,.int .u64 a1_1]] w fun e w'=>e = .returned (.tuple #[.int .u8 r1,.int .i64 r2]) ∧ Below w.heap.size w w' := by
 have hu40 := Tryd.underlying40
 have HR0 := Aside0.mk hr0
 have HC0 := Aside0.mk hc0
 clear hr0 hc0
 have HB := Aside0.mk (Below.refl w.heap.size w)
 have H : ((series_May.f k l0).bind fun t130=>(if t130 = true then ((series_judge.f k l0 a1_0 a1_1).bind fun t131=>(some (t131,0))) else (some (0,4)))) = some (r1,r2) := h
 clear h
 replace H := Option.bind_eq_some_iff.mp H
 obtain ⟨t130,A30,H⟩ := H
 replace H : (if t130 = true then ((series_judge.f k l0 a1_0 a1_1).bind fun t131=>(some (t131,0))) else (some (0,4))) = some (r1,r2) := H
 have A3 := Aside0.mk A30
 clear A30
 by_cases c4 : t130 = true
 ·subst c4
  have H1 : ((series_judge.f k l0 a1_0 a1_1).bind fun t131=>(some (t131,0))) = some (r1,r2) := by rw [if_pos rfl] at H;exact H
  clear H
  have H := H1
  clear H1
  replace H := Option.bind_eq_some_iff.mp H
  obtain ⟨t131,A50,H⟩ := H
  replace H : (some (t131,0)) = some (r1,r2) := H
  have A5 := Aside0.mk A50
  clear A50
  simp only [Option.some.injEq,Prod.mk.injEq] at H
  obtain ⟨rfl,rfl⟩ := H
  go_enter Tryd.func19,Tryd.ntmps19
  go_wp2_with (first|((with_reducible refine gate_dst (N := 3) rfl ?_);refine box_event ?hg (N := 3) ?hd (cs := #[.int .i64 a1_0,.int .u64 a1_1]) (t := 40) ?hr ?_;(case hd=>rfl);(case hg=>rfl);(case hr=>first|(go_simp;done)|(go_simp;rfl)|(go_simp;simp [my_u8w];done));intro gb129 hg w6 hbox hb;have n0_ := Aside0.mk (below_step (bl_) hb);have n1_ := Aside0.mk (hbox);have n2_ := Aside0.mk ((by rw [hg];exact (below_size (bl_)) : w.heap.size ≤ gb129));have n3_ := Aside0.mk ((by rw [hg];exact (below_size (bl_)) : w.heap.size ≤ gb129));clear HB;have HB := n0_;have BK129 := n1_;have GW129 := n2_;have GE129 := n3_;clear n0_ n1_ n2_ n3_;clear hb hbox hg)|((with_reducible refine gate_callee (f := 16) rfl ?_);refine goesL_ (some 7) rfl rfl Tryd.func16 q38_ rfl #[.slice A0 l0.length c0] rfl q2_ ?_;(with_reducible refine (series_May.calls k _ _ l0 true _ ?side1 ?side2 A3.out).mono ?_);(case side1=>repeat (first|exact (Kd.C_below HR0.out HB.out)|(with_reducible refine Kd.C_alloc ?_ _)|(with_reducible refine Kd.C_drewN ?_ _)|(with_reducible refine Kd.C_drew ?_)));(case side2=>exact HC0.out);rintro e w7 ⟨rfl,hb⟩;refine ⟨_,rfl,?_⟩;have n0_ := Aside0.mk (blk_below (g := gb129) (o := .cells #[.int .i64 a1_0,.int .u64 a1_1] 40 (0,0)) q80_ hb);have n1_ := Aside0.mk (below_step q57_ hb);clear BK129;clear HB;have BK129 := n0_;have HB := n1_;clear n0_ n1_;(try clear hb);(try clear hb2);(try clear hk);(try clear hi);have hcz8_0 : w7.cell? ⟨gb129,0,none⟩ = some (.int .i64 a1_0) := (blk_cell BK129.out 0).trans rfl;have hcz8_1 : w7.cell? ⟨gb129,1,none⟩ = some (.int .u64 a1_1) := (blk_cell BK129.out 1).trans rfl;have hfz8_0 := blk_frozen BK129.out 0;have hfz8_1 := blk_frozen BK129.out 1)|((with_reducible refine gate_callee (f := 28) rfl ?_);refine goesL_ (some 11) rfl rfl Tryd.func28 q38_ rfl #[.slice A0 l0.length c0,.agg #[.int .i64 a1_0,.int .u64 a1_1]] rfl q2_ ?_;(with_reducible refine (series_judge.calls k _ _ l0 a1_0 a1_1 t131 _ ?side1 ?side2 A5.out).mono ?_);(case side1=>repeat (first|exact (Kd.C_below HR0.out HB.out)|(with_reducible refine Kd.C_alloc ?_ _)|(with_reducible refine Kd.C_drewN ?_ _)|(with_reducible refine Kd.C_drew ?_)));(case side2=>exact HC0.out);rintro e w9 ⟨rfl,hb⟩;refine ⟨_,rfl,?_⟩;have n0_ := Aside0.mk (blk_below (g := gb129) (o := .cells #[.int .i64 a1_0,.int .u64 a1_1] 40 (0,0)) q80_ hb);have n1_ := Aside0.mk (below_step q57_ hb);clear BK129;clear HB;have BK129 := n0_;have HB := n1_;clear n0_ n1_;(try clear hb);(try clear hb2);(try clear hk);(try clear hi)))
  go_ret2
  exact ⟨q27_,q57_⟩
 ·replace c4 := Bool.eq_false_iff.mpr c4
  subst c4
  have H1 : (some (0,4)) = some (r1,r2) := by rw [if_neg (show ¬ (false = true) by decide)] at H;exact H
  clear H
  have H := H1
  clear H1
  simp only [Option.some.injEq,Prod.mk.injEq] at H
  obtain ⟨rfl,rfl⟩ := H
  go_enter Tryd.func19,Tryd.ntmps19
  go_wp2_with (first|((with_reducible refine gate_dst (N := 3) rfl ?_);refine box_event ?hg (N := 3) ?hd (cs := #[.int .i64 a1_0,.int .u64 a1_1]) (t := 40) ?hr ?_;(case hd=>rfl);(case hg=>rfl);(case hr=>first|(go_simp;done)|(go_simp;rfl)|(go_simp;simp [my_u8w];done));intro gb129 hg w10 hbox hb;have n0_ := Aside0.mk (below_step (bl_) hb);have n1_ := Aside0.mk (hbox);have n2_ := Aside0.mk ((by rw [hg];exact (below_size (bl_)) : w.heap.size ≤ gb129));have n3_ := Aside0.mk ((by rw [hg];exact (below_size (bl_)) : w.heap.size ≤ gb129));clear HB;have HB := n0_;have BK129 := n1_;have GW129 := n2_;have GE129 := n3_;clear n0_ n1_ n2_ n3_;clear hb hbox hg)|((with_reducible refine gate_callee (f := 16) rfl ?_);refine goesL_ (some 7) rfl rfl Tryd.func16 q38_ rfl #[.slice A0 l0.length c0] rfl q2_ ?_;(with_reducible refine (series_May.calls k _ _ l0 false _ ?side1 ?side2 A3.out).mono ?_);(case side1=>repeat (first|exact (Kd.C_below HR0.out HB.out)|(with_reducible refine Kd.C_alloc ?_ _)|(with_reducible refine Kd.C_drewN ?_ _)|(with_reducible refine Kd.C_drew ?_)));(case side2=>exact HC0.out);rintro e w11 ⟨rfl,hb⟩;refine ⟨_,rfl,?_⟩;have n0_ := Aside0.mk (blk_below (g := gb129) (o := .cells #[.int .i64 a1_0,.int .u64 a1_1] 40 (0,0)) q80_ hb);have n1_ := Aside0.mk (below_step q57_ hb);clear BK129;clear HB;have BK129 := n0_;have HB := n1_;clear n0_ n1_;(try clear hb);(try clear hb2);(try clear hk);(try clear hi)))
  go_ret2
  exact ⟨q27_,q57_⟩

/-! ### batonlaw22_judged: function 18 -/
def batonlaw22_judged.f (k : Nat) (l0 : List (S40)) (a1 : Int) (a2 : Int) (a3 : Int) : Option (Bool) := (series_Judge.f k l0 a1 a2).bind fun bt132 => (if bt132.2 = 0 then (some (bt132.1 == a3)) else (some false))
theorem batonlaw22_judged.mono : ∀ a0 a1 a2 a3 k, LeO (batonlaw22_judged.f k a0 a1 a2 a3) (batonlaw22_judged.f (k + 1) a0 a1 a2 a3) := by
 intro a0 a1 a2 a3 k
 unfold batonlaw22_judged.f
 repeat' first
   | (with_reducible exact series_Judge.mono _ _ _ _)
   | (with_reducible exact LeO.refl _)
   | (with_reducible exact LeO.none _)
   | (with_reducible refine LeO.ite ?_ ?_)
   | (with_reducible refine LeO.bind ?_ (fun _=>?_))
   | exact series_Judge.mono _ _ _ _
   | exact LeO.none _
   | refine LeO.ite ?_ ?_
   | refine LeO.bind ?_ (fun _=>?_)
set_option maxHeartbeats 8000000 in
set_option maxRecDepth 100000 in
theorem batonlaw22_judged.calls (k : Nat) (A0 : Option Addr) (c0 : Nat) (l0 : List (S40)) (a1 : Int) (a2 : Int) (a3 : Int) (r : Bool) (w : World) (hr0 : Kd.C k40 w A0 l0.length l0) (hc0 : l0.length ≤ c0) (h : batonlaw22_judged.f k l0 a1 a2 a3 = some r) :
  Calls Tryd.prog 18 #[.slice A0 l0.length c0,.int .i64 a1,.int .u64 a2,.int .u8 a3] w fun e w'=>e = .returned (.bool r) ∧ Below w.heap.size w w' := by
 have hu40 := Tryd.underlying40
 have HR0 := Aside0.mk hr0
 have HC0 := Aside0.mk hc0
 clear hr0 hc0
 have HB := Aside0.mk (Below.refl w.heap.size w)
 have H : ((series_Judge.f k l0 a1 a2).bind fun bt132=>(if bt132.2 = 0 then (some (bt132.1 == a3)) else (some false))) = some r := h
 clear h
 replace H := Option.bind_eq_some_iff.mp H
 obtain ⟨⟨t132,t133⟩,A50,H⟩ := H
 replace H : (if t133 = 0 then (some (t132 == a3)) else (some false)) = some r := H
 have A5 := Aside0.mk A50
 clear A50
 by_cases c6 : t133 = 0
 ·rw [if_pos c6] at H
  have c6b0 : (t133 == 0) = true := beq_iff_eq.mpr c6
  have c6b1 : (t133 != 0) = false := bne_eq_false_iff_eq.mpr c6
  clear c6
  obtain rfl := Option.some.inj H
  go_enter Tryd.func18,Tryd.ntmps18
  go_wp2_with (first|((with_reducible refine gate_callee (f := 19) rfl ?_);refine goesL_ (some 16) rfl rfl Tryd.func19 q38_ rfl #[.slice A0 l0.length c0,.agg #[.int .i64 a1,.int .u64 a2]] rfl q2_ ?_;(with_reducible refine (series_Judge.calls k _ _ l0 a1 a2 t132 t133 _ ?side1 ?side2 A5.out).mono ?_);(case side1=>repeat (first|exact HR0.out|(with_reducible refine Kd.C_alloc ?_ _)|(with_reducible refine Kd.C_drewN ?_ _)|(with_reducible refine Kd.C_drew ?_)));(case side2=>exact HC0.out);rintro e w7 ⟨rfl,hb⟩;refine ⟨_,rfl,?_⟩;have n0_ := Aside0.mk (below_step (bl_) hb);clear HB;have HB := n0_;clear n0_;(try clear hb);(try clear hb2);(try clear hk);(try clear hi)))
  go_ret
  exact ⟨q27_,bl_⟩
 ·rw [if_neg c6] at H
  have c6b0 : (t133 == 0) = false := beq_eq_false_iff_ne.mpr c6
  have c6b1 : (t133 != 0) = true := bne_iff_ne.mpr c6
  obtain rfl := Option.some.inj H
  go_enter Tryd.func18,Tryd.ntmps18
  go_wp2_with (first|((with_reducible refine gate_callee (f := 19) rfl ?_);refine goesL_ (some 16) rfl rfl Tryd.func19 q38_ rfl #[.slice A0 l0.length c0,.agg #[.int .i64 a1,.int .u64 a2]] rfl q2_ ?_;(with_reducible refine (series_Judge.calls k _ _ l0 a1 a2 t132 t133 _ ?side1 ?side2 A5.out).mono ?_);(case side1=>repeat (first|exact HR0.out|(with_reducible refine Kd.C_alloc ?_ _)|(with_reducible refine Kd.C_drewN ?_ _)|(with_reducible refine Kd.C_drew ?_)));(case side2=>exact HC0.out);rintro e w8 ⟨rfl,hb⟩;refine ⟨_,rfl,?_⟩;have n0_ := Aside0.mk (below_step (bl_) hb);clear HB;have HB := n0_;clear n0_;(try clear hb);(try clear hb2);(try clear hk);(try clear hi)))
  go_ret
  exact ⟨q27_,bl_⟩

end Go.Proofs.YtbedpnklnamnhaaDoor.PG

/- The machine side of these statements: what each Go function computes as a plain function, and that its call computes just that. Written by a program of mine (wip/drive.py). No conditions. -/
import Derived.Test.YtbedpnklnamnhaaDoorPFx0
import Derived.Test.YtbedpnklnamnhaaDoorPFx12
namespace Go.Proofs.YtbedpnklnamnhaaDoor.PF
open Go.RowKit Go.Proofs.YtbedpnklnamnhaaDoorW.PrintWords Go.Proofs.YtbedpnklnamnhaaDoorW.PrintLast Go.Proofs.YtbedpnklnamnhaaDoorW.PrintMore
attribute [local go_sem] max2_int min2_int max_two min_two max_three min_three max_four min_four   -- for this text's walks alone
set_option linter.unusedVariables false
set_option linter.unusedSimpArgs false

/-! ### batonref22_Between: function 7 -/
def batonref22_Between.l0 : Nat → List (S40) → Int → Int → List (S40) → Int → Option ((List (S40)) × Int)
 | 0,_,_,_,_,_=>none
 | k + 1,x0,x1,x2,x8,x9=>if x9 < (x0.length : Int) then (if 0 ≤ x9 then (if ((rd_T40 x0 x9).f0) ≥ x1 then (if ((rd_T40 x0 x9).f0) < x2 then (if x8.length < 8796093022208 then (batonref22_Between.l0 k x0 x1 x2 (x8 ++ [(⟨(rd_T40 x0 x9).f0,(rd_T40 x0 x9).f1⟩ : S40)]) (wrap64 (x9 + 1))) else (none)) else (batonref22_Between.l0 k x0 x1 x2 x8 (wrap64 (x9 + 1)))) else (batonref22_Between.l0 k x0 x1 x2 x8 (wrap64 (x9 + 1)))) else (none)) else (some (x8,0))
def batonref22_Between.f (k : Nat) (l0 : List (S40)) (a1 : Int) (a2 : Int) : Option ((List (S40)) × Int) := (batonref22_May.f k l0).bind fun t202 => (if t202 = true then (batonref22_Between.l0 k l0 a1 a2 ([] : List (S40)) 0) else (some (([] : List (S40)), 4)))
theorem batonref22_Between.mono_l : ∀ k, (∀ y0 y1 y2 y3 y4, LeO (batonref22_Between.l0 k y0 y1 y2 y3 y4) (batonref22_Between.l0 (k + 1) y0 y1 y2 y3 y4))
 | 0=>fun _ _ _ _ _ r h=>by simp [batonref22_Between.l0] at h
 | k + 1=>by
  have ih0 := batonref22_Between.mono_l k
  ·intro y0 y1 y2 y3 y4
   unfold batonref22_Between.l0
   repeat' first
   | (with_reducible exact ih0 _ _ _ _ _)
   | (with_reducible exact batonref22_May.mono _ _)
   | (with_reducible exact LeO.refl _)
   | (with_reducible exact LeO.none _)
   | (with_reducible refine LeO.ite ?_ ?_)
   | (with_reducible refine LeO.bind ?_ (fun _=>?_))
   | exact ih0 _ _ _ _ _
   | exact batonref22_May.mono _ _
   | exact LeO.none _
   | refine LeO.ite ?_ ?_
   | refine LeO.bind ?_ (fun _=>?_)
theorem batonref22_Between.mono : ∀ a0 a1 a2 k, LeO (batonref22_Between.f k a0 a1 a2) (batonref22_Between.f (k + 1) a0 a1 a2) := by
 intro a0 a1 a2 k
 have ih0 := batonref22_Between.mono_l k
 unfold batonref22_Between.f
 repeat' first
   | (with_reducible exact ih0 _ _ _ _ _)
   | (with_reducible exact batonref22_May.mono _ _)
   | (with_reducible exact LeO.refl _)
   | (with_reducible exact LeO.none _)
   | (with_reducible refine LeO.ite ?_ ?_)
   | (with_reducible refine LeO.bind ?_ (fun _=>?_))
   | exact ih0 _ _ _ _ _
   | exact batonref22_May.mono _ _
   | exact LeO.none _
   | refine LeO.ite ?_ ?_
   | refine LeO.bind ?_ (fun _=>?_)
set_option maxHeartbeats 8000000 in
set_option maxRecDepth 100000 in
theorem batonref22_Between.calls (k : Nat) (A0 : Option Addr) (c0 : Nat) (l0 : List (S40)) (a1 : Int) (a2 : Int) (r1 : List (S40)) (r2 : Int) (w : World) (hr0 : Kd.C k40 w A0 l0.length l0) (hc0 : l0.length ≤ c0) (h : batonref22_Between.f k l0 a1 a2 = some (r1, r2)) :
  Calls Tryd.prog 7 #[.slice A0 l0.length c0,.int .i64 a1,.int .i64 a2] w fun e w'=>∃ v0_ : Value,e = .returned (.tuple #[v0_,.int .i64 r2]) ∧ Kd.R k40 40 w' w.heap.size (fun _=>True) v0_ r1 ∧ Below w.heap.size w w' := by
 have hu40 := Tryd.underlying40
 have HR0 := Aside0.mk hr0
 have HC0 := Aside0.mk hc0
 clear hr0 hc0
 have HB := Aside0.mk (Below.refl w.heap.size w)
 have H : ((batonref22_May.f k l0).bind fun t202=>(if t202 = true then (batonref22_Between.l0 k l0 a1 a2 ([] : List (S40)) 0) else (some (([] : List (S40)),4)))) = some (r1,r2) := h
 clear h
 replace H := Option.bind_eq_some_iff.mp H
 obtain ⟨t202,A40,H⟩ := H
 replace H : (if t202 = true then (batonref22_Between.l0 k l0 a1 a2 ([] : List (S40)) 0) else (some (([] : List (S40)),4))) = some (r1,r2) := H
 have A4 := Aside0.mk A40
 clear A40
 by_cases c5 : t202 = true
 ·subst c5
  have H1 : (batonref22_Between.l0 k l0 a1 a2 ([] : List (S40)) 0) = some (r1,r2) := by rw [if_pos rfl] at H;exact H
  clear H
  have H := H1
  clear H1
  have H' := Aside0.mk H
  clear H
  go_enter Tryd.func7,Tryd.ntmps7
  go_wp2_with (first|((with_reducible refine gate_callee (f := 24) rfl ?_);refine goesL_ (some 11) rfl rfl Tryd.func24 q11_ rfl #[.slice A0 l0.length c0] rfl q1_ ?_;(with_reducible refine (batonref22_May.calls k _ _ l0 true _ ?side1 ?side2 A4.out).mono ?_);(case side1=>repeat (first|exact HR0.out|(with_reducible refine Kd.C_alloc ?_ _)|(with_reducible refine Kd.C_drewN ?_ _)|(with_reducible refine Kd.C_drew ?_)));(case side2=>exact HC0.out);rintro e w' ⟨rfl,⟨nd,rfl⟩⟩;refine ⟨_,rfl,?_⟩))
  go_loopg [8,9] k (fun kq v8 v9 w'=>∃ (x8_1 : List (S40)) (x9_1 : Int),v9 = .int .i64 x9_1 ∧ Aside0 (batonref22_Between.l0 kq l0 a1 a2 x8_1 x9_1 = some (r1,r2)) ∧ Aside0 (kq ≤ k) ∧ Aside0 (Kd.R k40 40 w' w.heap.size (fun _=>True) v8 x8_1) ∧ Aside0 (Below w.heap.size w w'))
  case atStart=>exact ⟨(([] : List (S40))),(0),q10_,H',⟨Nat.le_refl _⟩,⟨q16_⟩,⟨bl_⟩⟩
  case round =>
   clear H'
   try clear c2
   try clear p2
   try clear c5
   obtain ⟨x8_1,x9_1,rfl,HA,HK1,HO_8,HB⟩ := hrel
   cases gk with
   | zero=>exact absurd HA.out (by simp [batonref22_Between.l0])
   | succ k1 =>
    have H := HA.out
    clear HA
    simp only [batonref22_Between.l0] at H
    by_cases c6 : x9_1 < (l0.length : Int)
    ·rw [if_pos c6] at H
     have c6b0 : decide (x9_1 < (l0.length : Int)) = true := decide_eq_true c6
     clear c6
     by_cases c7 : 0 ≤ x9_1
     ·rw [if_pos c7] at H
      have c7b0 : decide (0 ≤ x9_1) = true := decide_eq_true c7
      clear c7
      by_cases c8 : ((rd_T40 l0 x9_1).f0) ≥ a1
      ·rw [if_pos c8] at H
       have c8b0 : decide (a1 ≤ ((rd_T40 l0 x9_1).f0)) = true := decide_eq_true c8
       clear c8
       by_cases c9 : ((rd_T40 l0 x9_1).f0) < a2
       ·rw [if_pos c9] at H
        have c9b0 : decide (((rd_T40 l0 x9_1).f0) < a2) = true := decide_eq_true c9
        clear c9
        by_cases c10 : x8_1.length < 8796093022208
        ·rw [if_pos c10] at H
         have LMc10 := Aside0.mk c10
         clear c10
         obtain ⟨y206,hy206⟩ : ∃ y_ : List (S40),y_ = (x8_1 ++ [(⟨(rd_T40 l0 x9_1).f0,(rd_T40 l0 x9_1).f1⟩ : S40)]) := ⟨_,rfl⟩
         replace H : (batonref22_Between.l0 k1 l0 a1 a2 y206 (wrap64 (x9_1 + 1))) = some (r1,r2) := by first|(rw [hy206];with_reducible exact H)|(have H2_ := (Option.bind_some _ _).symm.trans H;rw [hy206];with_reducible exact H2_)|(have H2_ := (Option.bind_some _ _).symm.trans H;with_reducible exact H2_)|with_reducible exact H|(rw [hy206];exact H)|exact H
         have Ny206 := Aside0.mk hy206
         clear hy206
         have H' := Aside0.mk H
         clear H
         have p203 : 0 ≤ (x9_1 : Int) := of_decide_eq_true q5_
         have q203 : x9_1 < (l0.length : Int) := of_decide_eq_true q5_
         obtain ⟨ad203,e203,hx203_0,hx203_1⟩ := at_T40 HR0.out x9_1 p203 q203
         cases e203
         replace hx203_0 := (HB.out.cell (World.block_lt_of_cell? w _ hx203_0)).trans hx203_0
         replace hx203_1 := (HB.out.cell (World.block_lt_of_cell? w _ hx203_1)).trans hx203_1
         replace p203 := eq_true p203
         replace q203 := eq_true q203
         have p204 : 0 ≤ (x9_1 : Int) := of_decide_eq_true q5_
         have q204 : x9_1 < (l0.length : Int) := of_decide_eq_true q5_
         obtain ⟨ad204,e204,hx204_0,hx204_1⟩ := at_T40 HR0.out x9_1 p204 q204
         obtain rfl : ad203 = ad204 := (by injection e204)
         replace hx204_0 := (HB.out.cell (World.block_lt_of_cell? w _ hx204_0)).trans hx204_0
         replace hx204_1 := (HB.out.cell (World.block_lt_of_cell? w _ hx204_1)).trans hx204_1
         replace p204 := eq_true p204
         replace q204 := eq_true q204
         have p205 : 0 ≤ (x9_1 : Int) := of_decide_eq_true q5_
         have q205 : x9_1 < (l0.length : Int) := of_decide_eq_true q5_
         obtain ⟨ad205,e205,hx205_0,hx205_1⟩ := at_T40 HR0.out x9_1 p205 q205
         obtain rfl : ad203 = ad205 := (by injection e205)
         replace hx205_0 := (HB.out.cell (World.block_lt_of_cell? w _ hx205_0)).trans hx205_0
         replace hx205_1 := (HB.out.cell (World.block_lt_of_cell? w _ hx205_1)).trans hx205_1
         replace p205 := eq_true p205
         replace q205 := eq_true q205
         go_wp2_with (first|((with_reducible refine gate_builtin (b := .append) (xs := #[.tmp 35,.tmp 40]) rfl ?_);at_builtin;refine Kd.R_append k40 (w0 := w) w.heap.size rfl (.tmp 35) (.tmp 40) 22 40 (.agg #[(.int .i64 0),(.int .u64 0)]) 16 rfl Tryd.underlying22 info40 rfl (by decide) q29_ u8 x8_1 (⟨(rd_T40 l0 x9_1).f0,(rd_T40 l0 x9_1).f1⟩ : S40) [.int .i64 ((rd_T40 l0 x9_1).f0),.int .u64 ((rd_T40 l0 x9_1).f1)] (fun _=>True) (fun _=>False) rfl rfl ?aP (fun _ hk=>hk.elim) ?aF ?aO ?aB ?aS ?aL ?_;(case aP=>exact k40_mkM _ _ _ (⟨(rd_T40 l0 x9_1).f0,(rd_T40 l0 x9_1).f1⟩ : S40));(case aB=>exact (bl_));(case aF=>exact (fun _ _=>trivial));(case aO=>exact q48_);(case aS=>exact (below_size (bl_)));(case aL=>have := LMc10.out;omega);intro v207 w11 ho hb hg hat;rw [← Ny206.out] at ho;have n0_ := Aside0.mk (hb);have n1_ := Aside0.mk (ho);clear HB;clear HO_8;have HB := n0_;have HO208 := n1_;clear n0_ n1_;clear ho hb hg hat))
         go_roundg k1
         case measure=>have := HK1.out;omega
         case rel=>exact ⟨(y206),(wrap64 (x9_1 + 1)),q10_,H',⟨q46_⟩,⟨by (with_reducible repeat (first|apply Kd.R_alloc|apply Kd.R_drewN|apply Kd.R_drew));exact HO208.out⟩,⟨bl_⟩⟩
        ·rw [if_neg c10] at H
         exact absurd H (by simp)
       ·rw [if_neg c9] at H
        have c9b0 : decide (((rd_T40 l0 x9_1).f0) < a2) = false := decide_eq_false c9
        clear c9
        have H' := Aside0.mk H
        clear H
        have p203 : 0 ≤ (x9_1 : Int) := of_decide_eq_true q5_
        have q203 : x9_1 < (l0.length : Int) := of_decide_eq_true q5_
        obtain ⟨ad203,e203,hx203_0,hx203_1⟩ := at_T40 HR0.out x9_1 p203 q203
        cases e203
        replace hx203_0 := (HB.out.cell (World.block_lt_of_cell? w _ hx203_0)).trans hx203_0
        replace hx203_1 := (HB.out.cell (World.block_lt_of_cell? w _ hx203_1)).trans hx203_1
        replace p203 := eq_true p203
        replace q203 := eq_true q203
        have p204 : 0 ≤ (x9_1 : Int) := of_decide_eq_true q5_
        have q204 : x9_1 < (l0.length : Int) := of_decide_eq_true q5_
        obtain ⟨ad204,e204,hx204_0,hx204_1⟩ := at_T40 HR0.out x9_1 p204 q204
        obtain rfl : ad203 = ad204 := (by injection e204)
        replace hx204_0 := (HB.out.cell (World.block_lt_of_cell? w _ hx204_0)).trans hx204_0
        replace hx204_1 := (HB.out.cell (World.block_lt_of_cell? w _ hx204_1)).trans hx204_1
        replace p204 := eq_true p204
        replace q204 := eq_true q204
        go_wp2
        go_roundg k1
        case measure=>have := HK1.out;omega
        case rel=>exact ⟨(x8_1),(wrap64 (x9_1 + 1)),q10_,H',⟨q46_⟩,⟨q48_⟩,⟨bl_⟩⟩
      ·rw [if_neg c8] at H
       have c8b0 : decide (a1 ≤ ((rd_T40 l0 x9_1).f0)) = false := decide_eq_false c8
       clear c8
       have H' := Aside0.mk H
       clear H
       have p203 : 0 ≤ (x9_1 : Int) := of_decide_eq_true q5_
       have q203 : x9_1 < (l0.length : Int) := of_decide_eq_true q5_
       obtain ⟨ad203,e203,hx203_0,hx203_1⟩ := at_T40 HR0.out x9_1 p203 q203
       cases e203
       replace hx203_0 := (HB.out.cell (World.block_lt_of_cell? w _ hx203_0)).trans hx203_0
       replace hx203_1 := (HB.out.cell (World.block_lt_of_cell? w _ hx203_1)).trans hx203_1
       replace p203 := eq_true p203
       replace q203 := eq_true q203
       go_wp2
       go_roundg k1
       case measure=>have := HK1.out;omega
       case rel=>exact ⟨(x8_1),(wrap64 (x9_1 + 1)),q10_,H',⟨q46_⟩,⟨q48_⟩,⟨bl_⟩⟩
     ·rw [if_neg c7] at H
      exact absurd H (by simp)
    ·rw [if_neg c6] at H
     have c6b0 : decide (x9_1 < (l0.length : Int)) = false := decide_eq_false c6
     clear c6
     simp only [Option.some.injEq,Prod.mk.injEq] at H
     obtain ⟨rfl,rfl⟩ := H
     go_wp2
     go_ret2
     exact ⟨_,q9_,q48_,bl_⟩
 ·replace c5 := Bool.eq_false_iff.mpr c5
  subst c5
  have H1 : (some (([] : List (S40)),4)) = some (r1,r2) := by rw [if_neg (show ¬ (false = true) by decide)] at H;exact H
  clear H
  have H := H1
  clear H1
  simp only [Option.some.injEq,Prod.mk.injEq] at H
  obtain ⟨rfl,rfl⟩ := H
  go_enter Tryd.func7,Tryd.ntmps7
  go_wp2_with (first|((with_reducible refine gate_callee (f := 24) rfl ?_);refine goesL_ (some 11) rfl rfl Tryd.func24 q11_ rfl #[.slice A0 l0.length c0] rfl q1_ ?_;(with_reducible refine (batonref22_May.calls k _ _ l0 false _ ?side1 ?side2 A4.out).mono ?_);(case side1=>repeat (first|exact HR0.out|(with_reducible refine Kd.C_alloc ?_ _)|(with_reducible refine Kd.C_drewN ?_ _)|(with_reducible refine Kd.C_drew ?_)));(case side2=>exact HC0.out);rintro e w' ⟨rfl,⟨nd,rfl⟩⟩;refine ⟨_,rfl,?_⟩))
  go_ret2
  exact ⟨_,q9_,q16_,bl_⟩

-- NOT PRINTED: function 32 (slices_overlaps)

end Go.Proofs.YtbedpnklnamnhaaDoor.PF

/- The machine side of these statements: what each Go function computes as a plain function, and that its call computes just that. Written by a program of mine (wip/drive.py). No conditions. -/
import Derived.Test.YtbedpnklnamnhaaDoorPFx0
import Derived.Test.YtbedpnklnamnhaaDoorPFx3
import Derived.Test.YtbedpnklnamnhaaDoorPFx4
import Derived.Test.YtbedpnklnamnhaaDoorPFx15
namespace Go.Proofs.YtbedpnklnamnhaaDoor.PF
open Go.RowKit Go.Proofs.YtbedpnklnamnhaaDoorW.PrintWords Go.Proofs.YtbedpnklnamnhaaDoorW.PrintLast Go.Proofs.YtbedpnklnamnhaaDoorW.PrintMore
attribute [local go_sem] max2_int min2_int max_two min_two max_three min_three max_four min_four   -- for this text's walks alone
set_option linter.unusedVariables false
set_option linter.unusedSimpArgs false

/-! ### series_Join: function 8 -/
mutual
def series_Join.j0 : Nat → List (S40) → List (S40) → Bool → Option ((List (S40)) × Int)
 | 0,_,_,_=>none
 | k + 1,x0,x1,x18=>if x18 = true then (some (([] : List (S40)),4)) else ((slices_Clone.f x0).bind fun t219=>(series_Join.l0 k t219 x1 (x1.length : Int) 0))
def series_Join.l0 : Nat → List (S40) → List (S40) → Int → Int → Option ((List (S40)) × Int)
 | 0,_,_,_,_=>none
 | k + 1,x6,x21,x22,x23=>if x23 < x22 then (if 0 ≤ x23 then (if x23 < (x21.length : Int) then ((series_place.f x6 ((rd_T40 x21 x23).f0)).bind fun bt224=>(if bt224.2 = true then (series_Join.l0 k x6 x21 x22 (wrap64 (x23 + 1))) else ((slices_Insert.f x6 bt224.1 (([(⟨(rd_T40 x21 x23).f0,(rd_T40 x21 x23).f1⟩ : S40)] : List (S40)))).bind fun t229=>(series_Join.l0 k t229 x21 x22 (wrap64 (x23 + 1)))))) else (none)) else (none)) else (some (x6,0))
end
def series_Join.f (k : Nat) (l0 : List (S40)) (l1 : List (S40)) : Option ((List (S40)) × Int) := (series_May.f k l0).bind fun t217 => (if t217 = true then ((series_May.f k l1).bind fun t218 => (series_Join.j0 k l0 l1 (!t218))) else (series_Join.j0 k l0 l1 true))
theorem series_Join.mono_l : ∀ k, (∀ y0 y1 y2, LeO (series_Join.j0 k y0 y1 y2) (series_Join.j0 (k + 1) y0 y1 y2)) ∧ (∀ y0 y1 y2 y3, LeO (series_Join.l0 k y0 y1 y2 y3) (series_Join.l0 (k + 1) y0 y1 y2 y3))
 | 0=>⟨fun _ _ _ r h=>by simp [series_Join.j0] at h,fun _ _ _ _ r h=>by simp [series_Join.l0] at h⟩
 | k + 1=>by
  obtain ⟨ih0,ih1⟩ := series_Join.mono_l k
  refine ⟨?_,?_⟩
  ·intro y0 y1 y2
   unfold series_Join.j0
   repeat' first
   | (with_reducible exact ih0 _ _ _)
   | (with_reducible exact ih1 _ _ _ _)
   | (with_reducible exact series_May.mono _ _)
   | (with_reducible exact LeO.refl _)
   | (with_reducible exact LeO.none _)
   | (with_reducible refine LeO.ite ?_ ?_)
   | (with_reducible refine LeO.bind ?_ (fun _=>?_))
   | exact ih0 _ _ _
   | exact ih1 _ _ _ _
   | exact series_May.mono _ _
   | exact LeO.none _
   | refine LeO.ite ?_ ?_
   | refine LeO.bind ?_ (fun _=>?_)
  ·intro y0 y1 y2 y3
   unfold series_Join.l0
   repeat' first
   | (with_reducible exact ih0 _ _ _)
   | (with_reducible exact ih1 _ _ _ _)
   | (with_reducible exact series_May.mono _ _)
   | (with_reducible exact LeO.refl _)
   | (with_reducible exact LeO.none _)
   | (with_reducible refine LeO.ite ?_ ?_)
   | (with_reducible refine LeO.bind ?_ (fun _=>?_))
   | exact ih0 _ _ _
   | exact ih1 _ _ _ _
   | exact series_May.mono _ _
   | exact LeO.none _
   | refine LeO.ite ?_ ?_
   | refine LeO.bind ?_ (fun _=>?_)
theorem series_Join.mono : ∀ a0 a1 k, LeO (series_Join.f k a0 a1) (series_Join.f (k + 1) a0 a1) := by
 intro a0 a1 k
 obtain ⟨ih0,ih1⟩ := series_Join.mono_l k
 unfold series_Join.f
 repeat' first
   | (with_reducible exact ih0 _ _ _)
   | (with_reducible exact ih1 _ _ _ _)
   | (with_reducible exact series_May.mono _ _)
   | (with_reducible exact LeO.refl _)
   | (with_reducible exact LeO.none _)
   | (with_reducible refine LeO.ite ?_ ?_)
   | (with_reducible refine LeO.bind ?_ (fun _=>?_))
   | exact ih0 _ _ _
   | exact ih1 _ _ _ _
   | exact series_May.mono _ _
   | exact LeO.none _
   | refine LeO.ite ?_ ?_
   | refine LeO.bind ?_ (fun _=>?_)
set_option maxHeartbeats 8000000 in
set_option maxRecDepth 100000 in
theorem series_Join.calls (k : Nat) (A0 : Option Addr) (c0 : Nat) (l0 : List (S40)) (A1 : Option Addr) (c1 : Nat) (l1 : List (S40)) (r1 : List (S40)) (r2 : Int) (w : World) (hr0 : Kd.C k40 w A0 l0.length l0) (hc0 : l0.length ≤ c0) (hr1 : Kd.C k40 w A1 l1.length l1) (hc1 : l1.length ≤ c1) (h : series_Join.f k l0 l1 = some (r1, r2)) :
  Calls Tryd.prog 8 #[.slice A0 l0.length c0,.slice A1 l1.length c1] w fun e w'=>∃ v0_ : Value,e = .returned (.tuple #[v0_,.int .i64 r2]) ∧ Kd.R k40 40 w' w.heap.size (fun _=>True) v0_ r1 ∧ Below w.heap.size w w' := by
 have hu40 := Tryd.underlying40
 have HR0 := Aside0.mk hr0
 have HC0 := Aside0.mk hc0
 clear hr0 hc0
 have HR1 := Aside0.mk hr1
 have HC1 := Aside0.mk hc1
 clear hr1 hc1
 have HB := Aside0.mk (Below.refl w.heap.size w)
 have H : ((series_May.f k l0).bind fun t217=>(if t217 = true then ((series_May.f k l1).bind fun t218=>(series_Join.j0 k l0 l1 (!t218))) else (series_Join.j0 k l0 l1 true))) = some (r1,r2) := h
 clear h
 have HC3 := Aside0.mk H
 clear H
 go_enter Tryd.func8,Tryd.ntmps8
 go_upto_region 1 with (fail)
 go_cut [18] (fun v18 wc=>∃ (kq : Nat) (x18_2 : Bool),v18 = .bool x18_2 ∧ Aside0 (series_Join.j0 kq l0 l1 x18_2 = some (r1,r2)) ∧ Aside0 (kq ≤ k) ∧ Aside0 (Below w.heap.size w wc))
 case first =>
  have H := HC3.out
  clear HC3
  replace H := Option.bind_eq_some_iff.mp H
  obtain ⟨t217,A40,H⟩ := H
  replace H : (if t217 = true then ((series_May.f k l1).bind fun t218=>(series_Join.j0 k l0 l1 (!t218))) else (series_Join.j0 k l0 l1 true)) = some (r1,r2) := H
  have A4 := Aside0.mk A40
  clear A40
  by_cases c5 : t217 = true
  ·subst c5
   have H1 : ((series_May.f k l1).bind fun t218=>(series_Join.j0 k l0 l1 (!t218))) = some (r1,r2) := by rw [if_pos rfl] at H;exact H
   clear H
   have H := H1
   clear H1
   replace H := Option.bind_eq_some_iff.mp H
   obtain ⟨t218,A60,H⟩ := H
   replace H : (series_Join.j0 k l0 l1 (!t218)) = some (r1,r2) := H
   have A6 := Aside0.mk A60
   clear A60
   have H' := Aside0.mk H
   clear H
   go_wp2_with (first|((with_reducible refine gate_callee (f := 16) rfl ?_);refine goesL_ (some 12) rfl rfl Tryd.func16 q11_ rfl #[.slice A0 l0.length c0] rfl q1_ ?_;(with_reducible refine (series_May.calls k _ _ l0 true _ ?side1 ?side2 A4.out).mono ?_);(case side1=>repeat (first|exact (Kd.C_below HR0.out HB.out)|(with_reducible refine Kd.C_alloc ?_ _)|(with_reducible refine Kd.C_drewN ?_ _)|(with_reducible refine Kd.C_drew ?_)));(case side2=>exact HC0.out);rintro e w7 ⟨rfl,hb⟩;refine ⟨_,rfl,?_⟩;have n0_ := Aside0.mk (below_step (bl_) hb);clear HB;have HB := n0_;clear n0_;(try clear hb);(try clear hb2);(try clear hk);(try clear hi))|(go_at_call 16;(with_reducible refine (series_May.calls k _ _ l1 t218 _ ?side1 ?side2 A6.out).mono ?_);(case side1=>repeat (first|exact (Kd.C_below HR1.out HB.out)|(with_reducible refine Kd.C_alloc ?_ _)|(with_reducible refine Kd.C_drewN ?_ _)|(with_reducible refine Kd.C_drew ?_)));(case side2=>exact HC1.out);rintro e w8 ⟨rfl,hb⟩;have n0_ := Aside0.mk (below_step (bl_) hb);clear HB;have HB := n0_;clear n0_;(try clear hb);(try clear hb2);(try clear hk);(try clear hi)))
   go_meet
   case rel=>exact ⟨_,(!t218),q10_,H',⟨q45_⟩,⟨bl_⟩⟩
  ·replace c5 := Bool.eq_false_iff.mpr c5
   subst c5
   have H1 : (series_Join.j0 k l0 l1 true) = some (r1,r2) := by rw [if_neg (show ¬ (false = true) by decide)] at H;exact H
   clear H
   have H := H1
   clear H1
   have H' := Aside0.mk H
   clear H
   go_wp2_with (first|((with_reducible refine gate_callee (f := 16) rfl ?_);refine goesL_ (some 12) rfl rfl Tryd.func16 q11_ rfl #[.slice A0 l0.length c0] rfl q1_ ?_;(with_reducible refine (series_May.calls k _ _ l0 false _ ?side1 ?side2 A4.out).mono ?_);(case side1=>repeat (first|exact (Kd.C_below HR0.out HB.out)|(with_reducible refine Kd.C_alloc ?_ _)|(with_reducible refine Kd.C_drewN ?_ _)|(with_reducible refine Kd.C_drew ?_)));(case side2=>exact HC0.out);rintro e w9 ⟨rfl,hb⟩;refine ⟨_,rfl,?_⟩;have n0_ := Aside0.mk (below_step (bl_) hb);clear HB;have HB := n0_;clear n0_;(try clear hb);(try clear hb2);(try clear hk);(try clear hi)))
   go_meet
   case rel=>exact ⟨_,(true),q10_,H',⟨q45_⟩,⟨bl_⟩⟩
 case rest =>
  clear HC3
  try clear c1
  try clear p2
  try clear c5
  try clear c8
  obtain ⟨kq,x18_2,rfl,HA,HJ2,HB⟩ := hcut
  cases kq with
  | zero=>exact absurd HA.out (by simp [series_Join.j0])
  | succ kj2 =>
   have H := HA.out
   clear HA
   simp only [series_Join.j0] at H
   by_cases c10 : x18_2 = true
   ·subst c10
    have H1 : (some (([] : List (S40)),4)) = some (r1,r2) := by rw [if_pos rfl] at H;exact H
    clear H
    have H := H1
    clear H1
    simp only [Option.some.injEq,Prod.mk.injEq] at H
    obtain ⟨rfl,rfl⟩ := H
    go_wp2
    go_ret2
    exact ⟨_,q9_,q16_,bl_⟩
   ·replace c10 := Bool.eq_false_iff.mpr c10
    subst c10
    have H1 : ((slices_Clone.f l0).bind fun t219=>(series_Join.l0 kj2 t219 l1 (l1.length : Int) 0)) = some (r1,r2) := by rw [if_neg (show ¬ (false = true) by decide)] at H;exact H
    clear H
    have H := H1
    clear H1
    replace H := Option.bind_eq_some_iff.mp H
    obtain ⟨t219,A110,H⟩ := H
    replace H : (series_Join.l0 kj2 t219 l1 (l1.length : Int) 0) = some (r1,r2) := H
    have A11 := Aside0.mk A110
    clear A110
    have H' := Aside0.mk H
    clear H
    go_wp2_with (first|((with_reducible refine gate_callee (f := 23) rfl ?_);refine goesL_ (some 20) rfl rfl Tryd.func23 q11_ rfl #[.slice A0 l0.length c0] rfl q1_ ?_;(with_reducible refine (slices_Clone.calls _ _ l0 t219 _ ?side1 ?side2 A11.out).mono ?_);(case side1=>repeat (first|exact (Kd.C_below HR0.out HB.out)|(with_reducible refine Kd.C_alloc ?_ _)|(with_reducible refine Kd.C_drewN ?_ _)|(with_reducible refine Kd.C_drew ?_)));(case side2=>exact HC0.out);rintro e w12 ⟨v220,rfl,ho0,hb⟩;refine ⟨_,rfl,?_⟩;have n0_ := Aside0.mk (Kd.R_lower ho0 (below_size (bl_)));have n1_ := Aside0.mk (below_step (bl_) hb);clear HB;have HO221 := n0_;have HB := n1_;clear n0_ n1_;(try clear hb);(try clear hb2);(try clear hk);(try clear hi);(try clear ho0)))
    go_loopg [6,23] kj2 (fun kq v6 v23 w'=>∃ (x6_2 : List (S40)) (x23_2 : Int),v23 = .int .i64 x23_2 ∧ Aside0 (series_Join.l0 kq x6_2 l1 (l1.length : Int) x23_2 = some (r1,r2)) ∧ Aside0 (kq ≤ kj2) ∧ Aside0 (Kd.R k40 40 w' w.heap.size (fun _=>True) v6 x6_2) ∧ Aside0 (Below w.heap.size w w'))
    case atStart=>exact ⟨(t219),(0),q10_,H',⟨Nat.le_refl _⟩,⟨by (with_reducible repeat (first|apply Kd.R_alloc|apply Kd.R_drewN|apply Kd.R_drew));exact HO221.out⟩,⟨bl_⟩⟩
    case round =>
     clear H'
     try clear c1
     try clear c2
     try clear p2
     try clear c5
     try clear c8
     try clear c10
     try clear p2
     obtain ⟨x6_2,x23_2,rfl,HA,HK2,HO_6,HB⟩ := hrel
     cases gk with
     | zero=>exact absurd HA.out (by simp [series_Join.l0])
     | succ k2 =>
      have H := HA.out
      clear HA
      simp only [series_Join.l0] at H
      by_cases c13 : x23_2 < (l1.length : Int)
      ·rw [if_pos c13] at H
       have c13b0 : decide (x23_2 < (l1.length : Int)) = true := decide_eq_true c13
       clear c13
       by_cases c14 : 0 ≤ x23_2
       ·rw [if_pos c14] at H
        have c14b0 : decide (0 ≤ x23_2) = true := decide_eq_true c14
        clear c14
        by_cases c15 : x23_2 < (l1.length : Int)
        ·rw [if_pos c15] at H
         have c15b0 : decide (x23_2 < (l1.length : Int)) = true := decide_eq_true c15
         clear c15
         replace H := Option.bind_eq_some_iff.mp H
         obtain ⟨⟨t224,t225⟩,A160,H⟩ := H
         replace H : (if t225 = true then (series_Join.l0 k2 x6_2 l1 (l1.length : Int) (wrap64 (x23_2 + 1))) else ((slices_Insert.f x6_2 t224 (([(⟨(rd_T40 l1 x23_2).f0,(rd_T40 l1 x23_2).f1⟩ : S40)] : List (S40)))).bind fun t229=>(series_Join.l0 k2 t229 l1 (l1.length : Int) (wrap64 (x23_2 + 1))))) = some (r1,r2) := H
         have A16 := Aside0.mk A160
         clear A160
         by_cases c17 : t225 = true
         ·subst c17
          have H1 : (series_Join.l0 k2 x6_2 l1 (l1.length : Int) (wrap64 (x23_2 + 1))) = some (r1,r2) := by rw [if_pos rfl] at H;exact H
          clear H
          have H := H1
          clear H1
          have H' := Aside0.mk H
          clear H
          have p222 : 0 ≤ (x23_2 : Int) := of_decide_eq_true q5_
          have q222 : x23_2 < (l1.length : Int) := of_decide_eq_true q5_
          obtain ⟨ad222,e222,hx222_0,hx222_1⟩ := at_T40 HR1.out x23_2 p222 q222
          cases e222
          replace hx222_0 := (HB.out.cell (World.block_lt_of_cell? w _ hx222_0)).trans hx222_0
          replace hx222_1 := (HB.out.cell (World.block_lt_of_cell? w _ hx222_1)).trans hx222_1
          replace p222 := eq_true p222
          replace q222 := eq_true q222
          go_wp2_with (first|((with_reducible refine gate_dst (N := 8) rfl ?_);refine box_event ?hg (N := 8) ?hd (cs := #[.int .i64 0,.int .u64 0]) (t := 40) ?hr ?_;(case hd=>rfl);(case hg=>rfl);(case hr=>first|(go_simp;done)|(go_simp;rfl)|(go_simp;simp [my_u8w];done));intro gb223 hg w18 hbox hb;have n0_ := Aside0.mk (Kd.R_below (Kd.R_elderB q12_ gb223 (Nat.le_of_eq hg.symm)) hb);have n1_ := Aside0.mk (below_step (bl_) hb);have n2_ := Aside0.mk (hbox);have n3_ := Aside0.mk ((by rw [hg];exact (below_size (bl_)) : w.heap.size ≤ gb223));have n4_ := Aside0.mk ((by rw [hg];exact (below_size (bl_)) : w.heap.size ≤ gb223));clear HO_6;clear HB;have HO_6 := n0_;have HB := n1_;have BK223 := n2_;have GW223 := n3_;have GE223 := n4_;clear n0_ n1_ n2_ n3_ n4_;clear hb hbox hg;have hcz19_0 : w18.cell? ⟨gb223,0,none⟩ = some (.int .i64 0) := (blk_cell BK223.out 0).trans rfl;have hcz19_1 : w18.cell? ⟨gb223,1,none⟩ = some (.int .u64 0) := (blk_cell BK223.out 1).trans rfl;have hfz19_0 := blk_frozen BK223.out 0;have hfz19_1 := blk_frozen BK223.out 1;obtain ⟨Ao20,co20,eo20⟩ := Kd.R_slice HO_6.out;subst eo20)|((with_reducible refine gate_callee (f := 22) rfl ?_);refine goesL_ (some 31) rfl rfl Tryd.func22 q11_ rfl #[.slice Ao20 x6_2.length co20,.int .i64 ((rd_T40 l1 x23_2).f0)] rfl q1_ ?_;(with_reducible refine (series_place.calls _ _ x6_2 ((rd_T40 l1 x23_2).f0) t224 true _ ?side1 ?side2 A16.out).mono ?_);(case side1=>refine (Kd.R_reads' (e := 40) (base := w.heap.size) (ok := fun k_=>(True ∧ k_ ≠ gb223)) (n := x6_2.length) (c := co20) ?_).2.2;exact q20_);(case side2=>exact (Kd.R_reads' HO_6.out).2.1);rintro e w21 ⟨rfl,hb⟩;refine ⟨_,rfl,?_⟩;have n0_ := Aside0.mk (Kd.R_below q20_ hb);have n1_ := Aside0.mk (blk_below (g := gb223) (o := .cells #[.int .i64 ((rd_T40 l1 x23_2).f0),.int .u64 ((rd_T40 l1 x23_2).f1)] 40 (0,0)) q36_ hb);have n2_ := Aside0.mk (below_step q26_ hb);clear HO_6;clear BK223;clear HB;have HO_6 := n0_;have BK223 := n1_;have HB := n2_;clear n0_ n1_ n2_;(try clear hb);(try clear hb2);(try clear hk);(try clear hi)))
          go_roundg k2
          case measure=>have := HJ2.out;have := HK2.out;omega
          case rel=>exact ⟨(x6_2),(wrap64 (x23_2 + 1)),q10_,H',⟨by have := HJ2.out;have := HK2.out;omega⟩,⟨by (with_reducible repeat (first|apply Kd.R_alloc|apply Kd.R_drewN|apply Kd.R_drew));exact Kd.R_mono HO_6.out (fun _ hk=>trivial)⟩,⟨q26_⟩⟩
         ·replace c17 := Bool.eq_false_iff.mpr c17
          subst c17
          have H1 : ((slices_Insert.f x6_2 t224 (([(⟨(rd_T40 l1 x23_2).f0,(rd_T40 l1 x23_2).f1⟩ : S40)] : List (S40)))).bind fun t229=>(series_Join.l0 k2 t229 l1 (l1.length : Int) (wrap64 (x23_2 + 1)))) = some (r1,r2) := by rw [if_neg (show ¬ (false = true) by decide)] at H;exact H
          clear H
          have H := H1
          clear H1
          obtain ⟨y226,hy226⟩ : ∃ y_ : List (S40),y_ = (([(⟨(rd_T40 l1 x23_2).f0,(rd_T40 l1 x23_2).f1⟩ : S40)] : List (S40))) := ⟨_,rfl⟩
          replace H : ((slices_Insert.f x6_2 t224 y226).bind fun t229=>(series_Join.l0 k2 t229 l1 (l1.length : Int) (wrap64 (x23_2 + 1)))) = some (r1,r2) := by first|(rw [hy226];with_reducible exact H)|(have H2_ := (Option.bind_some _ _).symm.trans H;rw [hy226];with_reducible exact H2_)|(have H2_ := (Option.bind_some _ _).symm.trans H;with_reducible exact H2_)|with_reducible exact H|(rw [hy226];exact H)|exact H
          have Ny226 := Aside0.mk hy226
          clear hy226
          replace H := Option.bind_eq_some_iff.mp H
          obtain ⟨t229,A220,H⟩ := H
          replace H : (series_Join.l0 k2 t229 l1 (l1.length : Int) (wrap64 (x23_2 + 1))) = some (r1,r2) := H
          have A22 := Aside0.mk A220
          clear A220
          have H' := Aside0.mk H
          clear H
          have p222 : 0 ≤ (x23_2 : Int) := of_decide_eq_true q5_
          have q222 : x23_2 < (l1.length : Int) := of_decide_eq_true q5_
          obtain ⟨ad222,e222,hx222_0,hx222_1⟩ := at_T40 HR1.out x23_2 p222 q222
          cases e222
          replace hx222_0 := (HB.out.cell (World.block_lt_of_cell? w _ hx222_0)).trans hx222_0
          replace hx222_1 := (HB.out.cell (World.block_lt_of_cell? w _ hx222_1)).trans hx222_1
          replace p222 := eq_true p222
          replace q222 := eq_true q222
          go_wp2_with (first|((with_reducible refine gate_dst (N := 8) rfl ?_);refine box_event ?hg (N := 8) ?hd (cs := #[.int .i64 0,.int .u64 0]) (t := 40) ?hr ?_;(case hd=>rfl);(case hg=>rfl);(case hr=>first|(go_simp;done)|(go_simp;rfl)|(go_simp;simp [my_u8w];done));intro gb223 hg w23 hbox hb;have n0_ := Aside0.mk (Kd.R_below (Kd.R_elderB q12_ gb223 (Nat.le_of_eq hg.symm)) hb);have n1_ := Aside0.mk (below_step (bl_) hb);have n2_ := Aside0.mk (hbox);have n3_ := Aside0.mk ((by rw [hg];exact (below_size (bl_)) : w.heap.size ≤ gb223));have n4_ := Aside0.mk ((by rw [hg];exact (below_size (bl_)) : w.heap.size ≤ gb223));clear HO_6;clear HB;have HO_6 := n0_;have HB := n1_;have BK223 := n2_;have GW223 := n3_;have GE223 := n4_;clear n0_ n1_ n2_ n3_ n4_;clear hb hbox hg;have hcz24_0 : w23.cell? ⟨gb223,0,none⟩ = some (.int .i64 0) := (blk_cell BK223.out 0).trans rfl;have hcz24_1 : w23.cell? ⟨gb223,1,none⟩ = some (.int .u64 0) := (blk_cell BK223.out 1).trans rfl;have hfz24_0 := blk_frozen BK223.out 0;have hfz24_1 := blk_frozen BK223.out 1;obtain ⟨Ao25,co25,eo25⟩ := Kd.R_slice HO_6.out;subst eo25)|((with_reducible refine gate_callee (f := 22) rfl ?_);refine goesL_ (some 31) rfl rfl Tryd.func22 q11_ rfl #[.slice Ao25 x6_2.length co25,.int .i64 ((rd_T40 l1 x23_2).f0)] rfl q1_ ?_;(with_reducible refine (series_place.calls _ _ x6_2 ((rd_T40 l1 x23_2).f0) t224 false _ ?side1 ?side2 A16.out).mono ?_);(case side1=>refine (Kd.R_reads' (e := 40) (base := w.heap.size) (ok := fun k_=>(True ∧ k_ ≠ gb223)) (n := x6_2.length) (c := co25) ?_).2.2;exact q20_);(case side2=>exact (Kd.R_reads' HO_6.out).2.1);rintro e w26 ⟨rfl,hb⟩;refine ⟨_,rfl,?_⟩;have n0_ := Aside0.mk (Kd.R_below q20_ hb);have n1_ := Aside0.mk (blk_below (g := gb223) (o := .cells #[.int .i64 ((rd_T40 l1 x23_2).f0),.int .u64 ((rd_T40 l1 x23_2).f1)] 40 (0,0)) q36_ hb);have n2_ := Aside0.mk (below_step q26_ hb);clear HO_6;clear BK223;clear HB;have HO_6 := n0_;have BK223 := n1_;have HB := n2_;clear n0_ n1_ n2_;(try clear hb);(try clear hb2);(try clear hk);(try clear hi);have hcz27_0 : w26.cell? ⟨gb223,0,none⟩ = some (.int .i64 ((rd_T40 l1 x23_2).f0)) := (blk_cell BK223.out 0).trans rfl;have hcz27_1 : w26.cell? ⟨gb223,1,none⟩ = some (.int .u64 ((rd_T40 l1 x23_2).f1)) := (blk_cell BK223.out 1).trans rfl;have hfz27_0 := blk_frozen BK223.out 0;have hfz27_1 := blk_frozen BK223.out 1)|((with_reducible refine gate_dst (N := 39) rfl ?_);refine Kd.R_lit k40 _ 40 ?hg (N := 39) ?hd (xs := ([(⟨(rd_T40 l1 x23_2).f0,(rd_T40 l1 x23_2).f1⟩ : S40)] : List (S40))) (inner := [.int .i64 ((rd_T40 l1 x23_2).f0),.int .u64 ((rd_T40 l1 x23_2).f1)]) (ok := fun _=>True) (okp := fun _=>True) ?hr ?hp (fun _ hk=>hk) trivial (Below.refl _ _) (Nat.le_refl _) (by simp) ?_;(case hd=>rfl);(case hg=>rfl);(case hr=>first|(go_simp;done)|(go_simp;rfl)|(go_simp;simp [my_u8w];done));(case hp=>exact (Reps.c2 (show Kd.M k40 _ _ _ (⟨(rd_T40 l1 x23_2).f0,(rd_T40 l1 x23_2).f1⟩ : S40) [.int .i64 ((rd_T40 l1 x23_2).f0),.int .u64 ((rd_T40 l1 x23_2).f1)] from (k40_mkM _ _ _ (⟨(rd_T40 l1 x23_2).f0,(rd_T40 l1 x23_2).f1⟩ : S40) )) (Reps.none _ _)));intro v227 w28 ho29 hb hg_ hnew_;clear hg_ hnew_;(first|rw [← Ny226.out] at ho29|(simp only [Int.reduceToNat] at ho29;rw [← Ny226.out] at ho29));have n0_ := Aside0.mk (Kd.R_elder' q12_ (Kd.R_base ho29) hb);have n1_ := Aside0.mk (Kd.R_lower (Kd.R_newB (Kd.R_new' ho29 (Kd.R_lt q12_)) (g := gb223) (o := .cells #[.int .i64 ((rd_T40 l1 x23_2).f0),.int .u64 ((rd_T40 l1 x23_2).f1)] 40 (0,0)) q42_) (below_size q26_));have n2_ := Aside0.mk (blk_below (g := gb223) (o := .cells #[.int .i64 ((rd_T40 l1 x23_2).f0),.int .u64 ((rd_T40 l1 x23_2).f1)] 40 (0,0)) q42_ hb);have n3_ := Aside0.mk (below_step q26_ hb);clear HO_6;clear BK223;clear HB;have HO_6 := n0_;have HO228 := n1_;have BK223 := n2_;have HB := n3_;clear n0_ n1_ n2_ n3_;clear hb ho29;obtain ⟨Ao30,co30,eo30⟩ := Kd.R_slice HO228.out;subst eo30)|((with_reducible refine gate_callee (f := 25) rfl ?_);refine goesL_ (some 40) rfl rfl Tryd.func25 q11_ rfl #[.slice Ao25 x6_2.length co25,.int .i64 t224,.slice Ao30 y226.length co30] rfl q1_ ?_;(with_reducible refine (slices_Insert.calls (fun k_=>some k_ = (.slice Ao25 x6_2.length co25 : Value).ownBlock) (.slice Ao25 x6_2.length co25) x6_2 t224 (fun k_=>some k_ = (.slice Ao30 y226.length co30 : Value).ownBlock) (.slice Ao30 y226.length co30) y226 t229 w _ ?side1 ?side2 ?side3 ?side4 ?side5 A22.out).mono ?_);(case side1=>repeat (first|(with_reducible first|exact HB.out|apply below_alloc|apply pw_below_drewN|apply below_drew1|refine below_set ?_ GE223.out)|exact HB.out));(case side2=>exact Kd.R_tight rfl HO_6.out);(case side3=>exact fun k_ e_=>(HO_6.out.1 k_ e_.symm).2);(case side4=>exact Kd.R_tight rfl HO228.out);(case side5=>exact fun k_ e_=>(HO228.out.1 k_ e_.symm).1.2);rintro e w31 ⟨v230,rfl,ho0,hb,hkp⟩;refine ⟨_,rfl,?_⟩;have n0_ := Aside0.mk (blk_kept q42_ hkp (fun hs_=>Or.elim hs_ (fun e_=>(fun e_=>(Kd.R_away HO_6.out (fun _ hk=>hk.1.2)) e_) e_) (fun e_=>(fun e_=>(Kd.R_away HO228.out (fun _ hk=>hk.2)) e_) e_)));have n1_ := Aside0.mk (Kd.R_mono (ok' := fun k_=>k_ ≠ gb223) ho0 (fun k_ hk_=>Or.elim hk_ (fun hs_=>Or.elim hs_ (fun hs_=>fun e_=>(Kd.R_away HO_6.out (fun _ hk=>hk.1.2)) (by rw [← e_];exact hs_)) (fun hs_=>fun e_=>(Kd.R_away HO228.out (fun _ hk=>hk.2)) (by rw [← e_];exact hs_))) (fun hn_=>(Kd.freshB (g := gb223) (o := .cells #[.int .i64 ((rd_T40 l1 x23_2).f0),.int .u64 ((rd_T40 l1 x23_2).f1)] 40 (0,0)) q42_ k_ hn_))));have n2_ := Aside0.mk (hb);clear BK223;clear HB;clear HO228;clear HO_6;have BK223 := n0_;have HO231 := n1_;have HB := n2_;clear n0_ n1_ n2_;(try clear hb);(try clear hkp);(try clear ho0)))
          go_roundg k2
          case measure=>have := HJ2.out;have := HK2.out;omega
          case rel=>exact ⟨(t229),(wrap64 (x23_2 + 1)),q10_,H',⟨by have := HJ2.out;have := HK2.out;omega⟩,⟨by (with_reducible repeat (first|apply Kd.R_alloc|apply Kd.R_drewN|apply Kd.R_drew));exact Kd.R_mono HO231.out (fun _ hk=>trivial)⟩,⟨q26_⟩⟩
        ·rw [if_neg c15] at H
         exact absurd H (by simp)
       ·rw [if_neg c14] at H
        exact absurd H (by simp)
      ·rw [if_neg c13] at H
       have c13b0 : decide (x23_2 < (l1.length : Int)) = false := decide_eq_false c13
       clear c13
       simp only [Option.some.injEq,Prod.mk.injEq] at H
       obtain ⟨rfl,rfl⟩ := H
       go_wp2
       go_ret2
       exact ⟨_,q9_,q12_,bl_⟩

end Go.Proofs.YtbedpnklnamnhaaDoor.PF

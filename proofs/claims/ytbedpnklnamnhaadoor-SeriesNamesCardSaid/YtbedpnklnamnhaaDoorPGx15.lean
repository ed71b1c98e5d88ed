/- The machine side of these statements: what each Go function computes as a plain function, and that its call computes just that. Written by a program of mine (wip/drive.py). No conditions. -/
import Derived.Test.YtbedpnklnamnhaaDoorPGx0
import Derived.Test.YtbedpnklnamnhaaDoorPGx4
import Derived.Test.YtbedpnklnamnhaaDoorPGx5
import Derived.Test.YtbedpnklnamnhaaDoorPGx14
namespace Go.Proofs.YtbedpnklnamnhaaDoor.PG
open Go.RowKit Go.Proofs.YtbedpnklnamnhaaDoorW.PrintWords Go.Proofs.YtbedpnklnamnhaaDoorW.PrintLast Go.Proofs.YtbedpnklnamnhaaDoorW.PrintMore
attribute [local go_sem] max2_int min2_int max_two min_two max_three min_three max_four min_four   -- for this text's walks alone
set_option linter.unusedVariables false
set_option linter.unusedSimpArgs false

/-! ### series_Join: function 8 -/
mutual
def series_Join.j0 : Nat → List (S40) → List (S40) → Bool → Option ((List (S40)) × Int)
 | 0,_,_,_=>none
 | k + 1,x0,x1,x18=>if x18 = true then (some (([] : List (S40)),4)) else ((slices_Clone.f x0).bind fun t208=>(series_Join.l0 k t208 x1 (x1.length : Int) 0))
def series_Join.l0 : Nat → List (S40) → List (S40) → Int → Int → Option ((List (S40)) × Int)
 | 0,_,_,_,_=>none
 | k + 1,x6,x21,x22,x23=>if x23 < x22 then (if 0 ≤ x23 then (if x23 < (x21.length : Int) then ((series_place.f x6 ((rd_T40 x21 x23).f0)).bind fun bt213=>(if bt213.2 = true then (series_Join.l0 k x6 x21 x22 (wrap64 (x23 + 1))) else ((slices_Insert.f x6 bt213.1 (([(⟨(rd_T40 x21 x23).f0,(rd_T40 x21 x23).f1⟩ : S40)] : List (S40)))).bind fun t218=>(series_Join.l0 k t218 x21 x22 (wrap64 (x23 + 1)))))) else (none)) else (none)) else (some (x6,0))
end
def series_Join.f (k : Nat) (l0 : List (S40)) (l1 : List (S40)) : Option ((List (S40)) × Int) := (series_May.f k l0).bind fun t206 => (if t206 = true then ((series_May.f k l1).bind fun t207 => (series_Join.j0 k l0 l1 (!t207))) else (series_Join.j0 k l0 l1 true))
theorem series_Join.mono_l : ∀ k, (∀ y0 y1 y2, LeO (series_Join.j0 k y0 y1 y2) (series_Join.j0 (k + 1) y0 y1 y2)) ∧ (∀ y0 y1 y2 y3, LeO (series_Join.l0 k y0 y1 y2 y3) (series_Join.l0 (k + 1) y0 y1 y2 y3))
 | 0=>⟨fun _ _ _ r h=>by simp [series_Join.j0] at h,fun _ _ _ _ r h=>by simp [series_Join.l0] at h⟩
 | k + 1=>by
  obtain ⟨ih0,ih1⟩ := series_Join.mono_l k
  refine ⟨?_,?_⟩
  ·intro y0 y1 y2
   unfold series_Join.j0
   repeat' first
   | (with_reducible exact ih0 _ _ _)
   | (with_reducible exact ih1 _ _ _ _)
   | (with_reducible exact series_May.mono _ _)
   | (with_reducible exact LeO.refl _)
   | (with_reducible exact LeO.none _)
   | (with_reducible refine LeO.ite ?_ ?_)
   | (with_reducible refine LeO.bind ?_ (fun _=>?_))
   | exact ih0 _ _ _
   | exact ih1 _ _ _ _
   | exact series_May.mono _ _
   | exact LeO.none _
   | refine LeO.ite ?_ ?_
   | refine LeO.bind ?_ (fun _=>?_)
  ·intro y0 y1 y2 y3
   unfold series_Join.l0
   repeat' first
   | (with_reducible exact ih0 _ _ _)
   | (with_reducible exact ih1 _ _ _ _)
   | (with_reducible exact series_May.mono _ _)
   | (with_reducible exact LeO.refl _)
   | (with_reducible exact LeO.none _)
   | (with_reducible refine LeO.ite ?_ ?_)
   | (with_reducible refine LeO.bind ?_ (fun _=>?_))
   | exact ih0 _ _ _
   | exact ih1 _ _ _ _
   | exact series_May.mono _ _
   | exact LeO.none _
   | refine LeO.ite ?_ ?_
   | refine LeO.bind ?_ (fun _=>?_)
theorem series_Join.mono : ∀ a0 a1 k, LeO (series_Join.f k a0 a1) (series_Join.f (k + 1) a0 a1) := by
 intro a0 a1 k
 obtain ⟨ih0,ih1⟩ := series_Join.mono_l k
 unfold series_Join.f
 repeat' first
   | (with_reducible exact ih0 _ _ _)
   | (with_reducible exact ih1 _ _ _ _)
   | (with_reducible exact series_May.mono _ _)
   | (with_reducible exact LeO.refl _)
   | (with_reducible exact LeO.none _)
   | (with_reducible refine LeO.ite ?_ ?_)
   | (with_reducible refine LeO.bind ?_ (fun _=>?_))
   | exact ih0 _ _ _
   | exact ih1 _ _ _ _
   | exact series_May.mono _ _
   | exact LeO.none _
   | refine LeO.ite ?_ ?_
   | refine LeO.bind ?_ (fun _=>?_)
set_option maxHeartbeats 8000000 in
set_option maxRecDepth 100000 in
theorem series_Join.calls (k : Nat) (A0 : Option Addr) (c0 : Nat) (l0 : List (S40)) (A1 : Option Addr) (c1 : Nat) (l1 : List (S40)) (r1 : List (S40)) (r2 : Int) (w : World) (hr0 : Kd.C k40 w A0 l0.length l0) (hc0 : l0.length ≤ c0) (hr1 : Kd.C k40 w A1 l1.length l1) (hc1 : l1.length ≤ c1) (h : series_Join.f k l0 l1 = some (r1, r2)) :
  Calls Tryd.prog 8 #[.slice A0 l0.length c0,.slice A1 l1.length c1] w fun e w'=>∃ v0_ : Value,e = .returned (.tuple #[v0_,.int .i64 r2]) ∧ Kd.R k40 40 w' w.heap.size (fun _=>True) v0_ r1 ∧ Below w.heap.size w w' := by
 have hu40 := Tryd.underlying40
 have HR0 := Aside0.mk hr0
 have HC0 := Aside0.mk hc0
 clear hr0 hc0
 have HR1 := Aside0.mk hr1
 have HC1 := Aside0.mk hc1
 clear hr1 hc1
 have HB := Aside0.mk (Below.refl w.heap.size w)
 have H : ((series_May.f k l0).bind fun t206=>(if t206 = true then ((series_May.f k l1).bind fun t207=>(series_Join.j0 k l0 l1 (!t207))) else (series_Join.j0 k l0 l1 true))) = some (r1,r2) := h
 clear h
 have HC3 := Aside0.mk H
 clear H
 go_enter Tryd.func8,Tryd.ntmps8
 go_upto_region 1 with (fail)
 go_cut [18] (fun v18 wc=>∃ (kq : Nat) (x18_2 : Bool),v18 = .bool x18_2 ∧ Aside0 (series_Join.j0 kq l0 l1 x18_2 = some (r1,r2)) ∧ Aside0 (kq ≤ k) ∧ Aside0 (Below w.heap.size w wc))
 case first =>
  have H := HC3.out
  clear HC3
  replace H := Option.bind_eq_some_iff.mp H
  obtain ⟨t206,A40,H⟩ := H
  replace H : (if t206 = true then ((series_May.f k l1).bind fun t207=>(series_Join.j0 k l0 l1 (!t207))) else (series_Join.j0 k l0 l1 true)) = some (r1,r2) := H
  have A4 := Aside0.mk A40
  clear A40
  by_cases c5 : t206 = true
  ·subst c5
   have H1 : ((series_May.f k l1).bind fun t207=>(series_Join.j0 k l0 l1 (!t207))) = some (r1,r2) := by rw [if_pos rfl] at H;exact H
   clear H
   have H := H1
   clear H1
   replace H := Option.bind_eq_some_iff.mp H
   obtain ⟨t207,A60,H⟩ := H
   replace H : (series_Join.j0 k l0 l1 (!t207)) = some (r1,r2) := H
   have A6 := Aside0.mk A60
   clear A60
   have H' := Aside0.mk H
   clear H
   go_wp2_with (first|((with_reducible refine gate_callee (f := 16) rfl ?_);refine goesL_ (some 12) rfl rfl Tryd.func16 q38_ rfl #[.slice A0 l0.length c0] rfl q2_ ?_;(with_reducible refine (series_May.calls k _ _ l0 true _ ?side1 ?side2 A4.out).mono ?_);(case side1=>repeat (first|exact (Kd.C_below HR0.out HB.out)|(with_reducible refine Kd.C_alloc ?_ _)|(with_reducible refine Kd.C_drewN ?_ _)|(with_reducible refine Kd.C_drew ?_)));(case side2=>exact HC0.out);rintro e w7 ⟨rfl,hb⟩;refine ⟨_,rfl,?_⟩;have n0_ := Aside0.mk (below_step (bl_) hb);clear HB;have HB := n0_;clear n0_;(try clear hb);(try clear hb2);(try clear hk);(try clear hi))|(go_at_call 16;(with_reducible refine (series_May.calls k _ _ l1 t207 _ ?side1 ?side2 A6.out).mono ?_);(case side1=>repeat (first|exact (Kd.C_below HR1.out HB.out)|(with_reducible refine Kd.C_alloc ?_ _)|(with_reducible refine Kd.C_drewN ?_ _)|(with_reducible refine Kd.C_drew ?_)));(case side2=>exact HC1.out);rintro e w8 ⟨rfl,hb⟩;have n0_ := Aside0.mk (below_step (bl_) hb);clear HB;have HB := n0_;clear n0_;(try clear hb);(try clear hb2);(try clear hk);(try clear hi)))
   go_meet
   case rel=>exact ⟨_,(!t207),q34_,H',⟨q82_⟩,⟨bl_⟩⟩
  ·replace c5 := Bool.eq_false_iff.mpr c5
   subst c5
   have H1 : (series_Join.j0 k l0 l1 true) = some (r1,r2) := by rw [if_neg (show ¬ (false = true) by decide)] at H;exact H
   clear H
   have H := H1
   clear H1
   have H' := Aside0.mk H
   clear H
   go_wp2_with (first|((with_reducible refine gate_callee (f := 16) rfl ?_);refine goesL_ (some 12) rfl rfl Tryd.func16 q38_ rfl #[.slice A0 l0.length c0] rfl q2_ ?_;(with_reducible refine (series_May.calls k _ _ l0 false _ ?side1 ?side2 A4.out).mono ?_);(case side1=>repeat (first|exact (Kd.C_below HR0.out HB.out)|(with_reducible refine Kd.C_alloc ?_ _)|(with_reducible refine Kd.C_drewN ?_ _)|(with_reducible refine Kd.C_drew ?_)));(case side2=>exact HC0.out);rintro e w9 ⟨rfl,hb⟩;refine ⟨_,rfl,?_⟩;have n0_ := Aside0.mk (below_step (bl_) hb);clear HB;have HB := n0_;clear n0_;(try clear hb);(try clear hb2);(try clear hk);(try clear hi)))
   go_meet
   case rel=>exact ⟨_,(true),q34_,H',⟨q82_⟩,⟨bl_⟩⟩
 case rest =>
  clear HC3
  try clear c1
  try clear p2
  try clear c5
  try clear c8
  obtain ⟨kq,x18_2,rfl,HA,HJ2,HB⟩ := hcut
  cases kq with
  | zero=>exact absurd HA.out (by simp [series_Join.j0])
  | succ kj2 =>
   have H := HA.out
   clear HA
   simp only [series_Join.j0] at H
   by_cases c10 : x18_2 = true
   ·subst c10
    have H1 : (some (([] : List (S40)),4)) = some (r1,r2) := by rw [if_pos rfl] at H;exact H
    clear H
    have H := H1
    clear H1
    simp only [Option.some.injEq,Prod.mk.injEq] at H
    obtain ⟨rfl,rfl⟩ := H
    go_wp2
    go_ret2
    exact ⟨_,q27_,q56_,bl_⟩
   ·replace c10 := Bool.eq_false_iff.mpr c10
    subst c10
    have H1 : ((slices_Clone.f l0).bind fun t208=>(series_Join.l0 kj2 t208 l1 (l1.length : Int) 0)) = some (r1,r2) := by rw [if_neg (show ¬ (false = true) by decide)] at H;exact H
    clear H
    have H := H1
    clear H1
    replace H := Option.bind_eq_some_iff.mp H
    obtain ⟨t208,A110,H⟩ := H
    replace H : (series_Join.l0 kj2 t208 l1 (l1.length : Int) 0) = some (r1,r2) := H
    have A11 := Aside0.mk A110
    clear A110
    have H' := Aside0.mk H
    clear H
    go_wp2_with (first|((with_reducible refine gate_callee (f := 23) rfl ?_);refine goesL_ (some 20) rfl rfl Tryd.func23 q38_ rfl #[.slice A0 l0.length c0] rfl q2_ ?_;(with_reducible refine (slices_Clone.calls _ _ l0 t208 _ ?side1 ?side2 A11.out).mono ?_);(case side1=>repeat (first|exact (Kd.C_below HR0.out HB.out)|(with_reducible refine Kd.C_alloc ?_ _)|(with_reducible refine Kd.C_drewN ?_ _)|(with_reducible refine Kd.C_drew ?_)));(case side2=>exact HC0.out);rintro e w12 ⟨v209,rfl,ho0,hb⟩;refine ⟨_,rfl,?_⟩;have n0_ := Aside0.mk (Kd.R_lower ho0 (below_size (bl_)));have n1_ := Aside0.mk (below_step (bl_) hb);clear HB;have HO210 := n0_;have HB := n1_;clear n0_ n1_;(try clear hb);(try clear hb2);(try clear hk);(try clear hi);(try clear ho0)))
    go_loopg [6,23] kj2 (fun kq v6 v23 w'=>∃ (x6_2 : List (S40)) (x23_2 : Int),v23 = .int .i64 x23_2 ∧ Aside0 (series_Join.l0 kq x6_2 l1 (l1.length : Int) x23_2 = some (r1,r2)) ∧ Aside0 (kq ≤ kj2) ∧ Aside0 (Kd.R k40 40 w' w.heap.size (fun _=>True) v6 x6_2) ∧ Aside0 (Below w.heap.size w w'))
    case atStart=>exact ⟨(t208),(0),q34_,H',⟨Nat.le_refl _⟩,⟨by (with_reducible repeat (first|apply Kd.R_alloc|apply Kd.R_drewN|apply Kd.R_drew));exact HO210.out⟩,⟨bl_⟩⟩
    case round =>
     clear H'
     try clear c1
     try clear c2
     try clear p2
     try clear c5
     try clear c8
     try clear c10
     try clear p2
     obtain ⟨x6_2,x23_2,rfl,HA,HK2,HO_6,HB⟩ := hrel
     cases gk with
     | zero=>exact absurd HA.out (by simp [series_Join.l0])
     | succ k2 =>
      have H := HA.out
      clear HA
      simp only [series_Join.l0] at H
      by_cases c13 : x23_2 < (l1.length : Int)
      ·rw [if_pos c13] at H
       have c13b0 : decide (x23_2 < (l1.length : Int)) = true := decide_eq_true c13
       clear c13
       by_cases c14 : 0 ≤ x23_2
       ·rw [if_pos c14] at H
        have c14b0 : decide (0 ≤ x23_2) = true := decide_eq_true c14
        clear c14
        by_cases c15 : x23_2 < (l1.length : Int)
        ·rw [if_pos c15] at H
         have c15b0 : decide (x23_2 < (l1.length : Int)) = true := decide_eq_true c15
         clear c15
         replace H := Option.bind_eq_some_iff.mp H
         obtain ⟨⟨t213,t214⟩,A160,H⟩ := H
         replace H : (if t214 = true then (series_Join.l0 k2 x6_2 l1 (l1.length : Int) (wrap64 (x23_2 + 1))) else ((slices_Insert.f x6_2 t213 (([(⟨(rd_T40 l1 x23_2).f0,(rd_T40 l1 x23_2).f1⟩ : S40)] : List (S40)))).bind fun t218=>(series_Join.l0 k2 t218 l1 (l1.length : Int) (wrap64 (x23_2 + 1))))) = some (r1,r2) := H
         have A16 := Aside0.mk A160
         clear A160
         by_cases c17 : t214 = true
         ·subst c17
          have H1 : (series_Join.l0 k2 x6_2 l1 (l1.length : Int) (wrap64 (x23_2 + 1))) = some (r1,r2) := by rw [if_pos rfl] at H;exact H
          clear H
          have H := H1
          clear H1
          have H' := Aside0.mk H
          clear H
          have p211 : 0 ≤ (x23_2 : Int) := of_decide_eq_true q19_
          have q211 : x23_2 < (l1.length : Int) := of_decide_eq_true q19_
          obtain ⟨ad211,e211,hx211_0,hx211_1⟩ := at_T40 HR1.out x23_2 p211 q211
          cases e211
          replace hx211_0 := (HB.out.cell (World.block_lt_of_cell? w _ hx211_0)).trans hx211_0
          replace hx211_1 := (HB.out.cell (World.block_lt_of_cell? w _ hx211_1)).trans hx211_1
          replace p211 := eq_true p211
          replace q211 := eq_true q211
          go_wp2_with (first|((with_reducible refine gate_dst (N := 8) rfl ?_);refine box_event ?hg (N := 8) ?hd (cs := #[.int .i64 0,.int .u64 0]) (t := 40) ?hr ?_;(case hd=>rfl);(case hg=>rfl);(case hr=>first|(go_simp;done)|(go_simp;rfl)|(go_simp;simp [my_u8w];done));intro gb212 hg w18 hbox hb;have n0_ := Aside0.mk (Kd.R_below (Kd.R_elderB q76_ gb212 (Nat.le_of_eq hg.symm)) hb);have n1_ := Aside0.mk (below_step (bl_) hb);have n2_ := Aside0.mk (hbox);have n3_ := Aside0.mk ((by rw [hg];exact (below_size (bl_)) : w.heap.size ≤ gb212));have n4_ := Aside0.mk ((by rw [hg];exact (below_size (bl_)) : w.heap.size ≤ gb212));clear HO_6;clear HB;have HO_6 := n0_;have HB := n1_;have BK212 := n2_;have GW212 := n3_;have GE212 := n4_;clear n0_ n1_ n2_ n3_ n4_;clear hb hbox hg;have hcz19_0 : w18.cell? ⟨gb212,0,none⟩ = some (.int .i64 0) := (blk_cell BK212.out 0).trans rfl;have hcz19_1 : w18.cell? ⟨gb212,1,none⟩ = some (.int .u64 0) := (blk_cell BK212.out 1).trans rfl;have hfz19_0 := blk_frozen BK212.out 0;have hfz19_1 := blk_frozen BK212.out 1;obtain ⟨Ao20,co20,eo20⟩ := Kd.R_slice HO_6.out;subst eo20)|((with_reducible refine gate_callee (f := 22) rfl ?_);refine goesL_ (some 31) rfl rfl Tryd.func22 q38_ rfl #[.slice Ao20 x6_2.length co20,.int .i64 ((rd_T40 l1 x23_2).f0)] rfl q2_ ?_;(with_reducible refine (series_place.calls _ _ x6_2 ((rd_T40 l1 x23_2).f0) t213 true _ ?side1 ?side2 A16.out).mono ?_);(case side1=>refine (Kd.R_reads' (e := 40) (base := w.heap.size) (ok := fun k_=>(True ∧ k_ ≠ gb212)) (n := x6_2.length) (c := co20) ?_).2.2;exact q45_);(case side2=>exact (Kd.R_reads' HO_6.out).2.1);rintro e w21 ⟨rfl,hb⟩;refine ⟨_,rfl,?_⟩;have n0_ := Aside0.mk (Kd.R_below q45_ hb);have n1_ := Aside0.mk (blk_below (g := gb212) (o := .cells #[.int .i64 ((rd_T40 l1 x23_2).f0),.int .u64 ((rd_T40 l1 x23_2).f1)] 40 (0,0)) q71_ hb);have n2_ := Aside0.mk (below_step q52_ hb);clear HO_6;clear BK212;clear HB;have HO_6 := n0_;have BK212 := n1_;have HB := n2_;clear n0_ n1_ n2_;(try clear hb);(try clear hb2);(try clear hk);(try clear hi)))
          go_roundg k2
          case measure=>have := HJ2.out;have := HK2.out;omega
          case rel=>exact ⟨(x6_2),(wrap64 (x23_2 + 1)),q34_,H',⟨by have := HJ2.out;have := HK2.out;omega⟩,⟨by (with_reducible repeat (first|apply Kd.R_alloc|apply Kd.R_drewN|apply Kd.R_drew));exact Kd.R_mono HO_6.out (fun _ hk=>trivial)⟩,⟨q52_⟩⟩
         ·replace c17 := Bool.eq_false_iff.mpr c17
          subst c17
          have H1 : ((slices_Insert.f x6_2 t213 (([(⟨(rd_T40 l1 x23_2).f0,(rd_T40 l1 x23_2).f1⟩ : S40)] : List (S40)))).bind fun t218=>(series_Join.l0 k2 t218 l1 (l1.length : Int) (wrap64 (x23_2 + 1)))) = some (r1,r2) := by rw [if_neg (show ¬ (false = true) by decide)] at H;exact H
          clear H
          have H := H1
          clear H1
          obtain ⟨y215,hy215⟩ : ∃ y_ : List (S40),y_ = (([(⟨(rd_T40 l1 x23_2).f0,(rd_T40 l1 x23_2).f1⟩ : S40)] : List (S40))) := ⟨_,rfl⟩
          replace H : ((slices_Insert.f x6_2 t213 y215).bind fun t218=>(series_Join.l0 k2 t218 l1 (l1.length : Int) (wrap64 (x23_2 + 1)))) = some (r1,r2) := by first|(rw [hy215];with_reducible exact H)|(have H2_ := (Option.bind_some _ _).symm.trans H;rw [hy215];with_reducible exact H2_)|(have H2_ := (Option.bind_some _ _).symm.trans H;with_reducible exact H2_)|with_reducible exact H|(rw [hy215];exact H)|exact H
          have Ny215 := Aside0.mk hy215
          clear hy215
          replace H := Option.bind_eq_some_iff.mp H
          obtain ⟨t218,A220,H⟩ := H
          replace H : (series_Join.l0 k2 t218 l1 (l1.length : Int) (wrap64 (x23_2 + 1))) = some (r1,r2) := H
          have A22 := Aside0.mk A220
          clear A220
          have H' := Aside0.mk H
          clear H
          have p211 : 0 ≤ (x23_2 : Int) := of_decide_eq_true q19_
          have q211 : x23_2 < (l1.length : Int) := of_decide_eq_true q19_
          obtain ⟨ad211,e211,hx211_0,hx211_1⟩ := at_T40 HR1.out x23_2 p211 q211
          cases e211
          replace hx211_0 := (HB.out.cell (World.block_lt_of_cell? w _ hx211_0)).trans hx211_0
          replace hx211_1 := (HB.out.cell (World.block_lt_of_cell? w _ hx211_1)).trans hx211_1
          replace p211 := eq_true p211
          replace q211 := eq_true q211
          go_wp2_with (first|((with_reducible refine gate_dst (N := 8) rfl ?_);refine box_event ?hg (N := 8) ?hd (cs := #[.int .i64 0,.int .u64 0]) (t := 40) ?hr ?_;(case hd=>rfl);(case hg=>rfl);(case hr=>first|(go_simp;done)|(go_simp;rfl)|(go_simp;simp [my_u8w];done));intro gb212 hg w23 hbox hb;have n0_ := Aside0.mk (Kd.R_below (Kd.R_elderB q76_ gb212 (Nat.le_of_eq hg.symm)) hb);have n1_ := Aside0.mk (below_step (bl_) hb);have n2_ := Aside0.mk (hbox);have n3_ := Aside0.mk ((by rw [hg];exact (below_size (bl_)) : w.heap.size ≤ gb212));have n4_ := Aside0.mk ((by rw [hg];exact (below_size (bl_)) : w.heap.size ≤ gb212));clear HO_6;clear HB;have HO_6 := n0_;have HB := n1_;have BK212 := n2_;have GW212 := n3_;have GE212 := n4_;clear n0_ n1_ n2_ n3_ n4_;clear hb hbox hg;have hcz24_0 : w23.cell? ⟨gb212,0,none⟩ = some (.int .i64 0) := (blk_cell BK212.out 0).trans rfl;have hcz24_1 : w23.cell? ⟨gb212,1,none⟩ = some (.int .u64 0) := (blk_cell BK212.out 1).trans rfl;have hfz24_0 := blk_frozen BK212.out 0;have hfz24_1 := blk_frozen BK212.out 1;obtain ⟨Ao25,co25,eo25⟩ := Kd.R_slice HO_6.out;subst eo25)|((with_reducible refine gate_callee (f := 22) rfl ?_);refine goesL_ (some 31) rfl rfl Tryd.func22 q38_ rfl #[.slice Ao25 x6_2.length co25,.int .i64 ((rd_T40 l1 x23_2).f0)] rfl q2_ ?_;(with_reducible refine (series_place.calls _ _ x6_2 ((rd_T40 l1 x23_2).f0) t213 false _ ?side1 ?side2 A16.out).mono ?_);(case side1=>refine (Kd.R_reads' (e := 40) (base := w.heap.size) (ok := fun k_=>(True ∧ k_ ≠ gb212)) (n := x6_2.length) (c := co25) ?_).2.2;exact q45_);(case side2=>exact (Kd.R_reads' HO_6.out).2.1);rintro e w26 ⟨rfl,hb⟩;refine ⟨_,rfl,?_⟩;have n0_ := Aside0.mk (Kd.R_below q45_ hb);have n1_ := Aside0.mk (blk_below (g := gb212) (o := .cells #[.int .i64 ((rd_T40 l1 x23_2).f0),.int .u64 ((rd_T40 l1 x23_2).f1)] 40 (0,0)) q71_ hb);have n2_ := Aside0.mk (below_step q52_ hb);clear HO_6;clear BK212;clear HB;have HO_6 := n0_;have BK212 := n1_;have HB := n2_;clear n0_ n1_ n2_;(try clear hb);(try clear hb2);(try clear hk);(try clear hi);have hcz27_0 : w26.cell? ⟨gb212,0,none⟩ = some (.int .i64 ((rd_T40 l1 x23_2).f0)) := (blk_cell BK212.out 0).trans rfl;have hcz27_1 : w26.cell? ⟨gb212,1,none⟩ = some (.int .u64 ((rd_T40 l1 x23_2).f1)) := (blk_cell BK212.out 1).trans rfl;have hfz27_0 := blk_frozen BK212.out 0;have hfz27_1 := blk_frozen BK212.out 1)|((with_reducible refine gate_dst (N := 39) rfl ?_);refine Kd.R_lit k40 _ 40 ?hg (N := 39) ?hd (xs := ([(⟨(rd_T40 l1 x23_2).f0,(rd_T40 l1 x23_2).f1⟩ : S40)] : List (S40))) (inner := [.int .i64 ((rd_T40 l1 x23_2).f0),.int .u64 ((rd_T40 l1 x23_2).f1)]) (ok := fun _=>True) (okp := fun _=>True) ?hr ?hp (fun _ hk=>hk) trivial (Below.refl _ _) (Nat.le_refl _) (by simp) ?_;(case hd=>rfl);(case hg=>rfl);(case hr=>first|(go_simp;done)|(go_simp;rfl)|(go_simp;simp [my_u8w];done));(case hp=>exact (Reps.c2 (show Kd.M k40 _ _ _ (⟨(rd_T40 l1 x23_2).f0,(rd_T40 l1 x23_2).f1⟩ : S40) [.int .i64 ((rd_T40 l1 x23_2).f0),.int .u64 ((rd_T40 l1 x23_2).f1)] from (k40_mkM _ _ _ (⟨(rd_T40 l1 x23_2).f0,(rd_T40 l1 x23_2).f1⟩ : S40) )) (Reps.none _ _)));intro v216 w28 ho29 hb hg_ hnew_;clear hg_ hnew_;(first|rw [← Ny215.out] at ho29|(simp only [Int.reduceToNat] at ho29;rw [← Ny215.out] at ho29));have n0_ := Aside0.mk (Kd.R_elder' q76_ (Kd.R_base ho29) hb);have n1_ := Aside0.mk (Kd.R_lower (Kd.R_newB (Kd.R_new' ho29 (Kd.R_lt q76_)) (g := gb212) (o := .cells #[.int .i64 ((rd_T40 l1 x23_2).f0),.int .u64 ((rd_T40 l1 x23_2).f1)] 40 (0,0)) q79_) (below_size q52_));have n2_ := Aside0.mk (blk_below (g := gb212) (o := .cells #[.int .i64 ((rd_T40 l1 x23_2).f0),.int .u64 ((rd_T40 l1 x23_2).f1)] 40 (0,0)) q79_ hb);have n3_ := Aside0.mk (below_step q52_ hb);clear HO_6;clear BK212;clear HB;have HO_6 := n0_;have HO217 := n1_;have BK212 := n2_;have HB := n3_;clear n0_ n1_ n2_ n3_;clear hb ho29;obtain ⟨Ao30,co30,eo30⟩ := Kd.R_slice HO217.out;subst eo30)|((with_reducible refine gate_callee (f := 25) rfl ?_);refine goesL_ (some 40) rfl rfl Tryd.func25 q38_ rfl #[.slice Ao25 x6_2.length co25,.int .i64 t213,.slice Ao30 y215.length co30] rfl q2_ ?_;(with_reducible refine (slices_Insert.calls (fun k_=>some k_ = (.slice Ao25 x6_2.length co25 : Value).ownBlock) (.slice Ao25 x6_2.length co25) x6_2 t213 (fun k_=>some k_ = (.slice Ao30 y215.length co30 : Value).ownBlock) (.slice Ao30 y215.length co30) y215 t218 w _ ?side1 ?side2 ?side3 ?side4 ?side5 A22.out).mono ?_);(case side1=>repeat (first|(with_reducible first|exact HB.out|apply below_alloc|apply pw_below_drewN|apply below_drew1|refine below_set ?_ GE212.out)|exact HB.out));(case side2=>exact Kd.R_tight rfl HO_6.out);(case side3=>exact fun k_ e_=>(HO_6.out.1 k_ e_.symm).2);(case side4=>exact Kd.R_tight rfl HO217.out);(case side5=>exact fun k_ e_=>(HO217.out.1 k_ e_.symm).1.2);rintro e w31 ⟨v219,rfl,ho0,hb,hkp⟩;refine ⟨_,rfl,?_⟩;have n0_ := Aside0.mk (blk_kept q79_ hkp (fun hs_=>Or.elim hs_ (fun e_=>(fun e_=>(Kd.R_away HO_6.out (fun _ hk=>hk.1.2)) e_) e_) (fun e_=>(fun e_=>(Kd.R_away HO217.out (fun _ hk=>hk.2)) e_) e_)));have n1_ := Aside0.mk (Kd.R_mono (ok' := fun k_=>k_ ≠ gb212) ho0 (fun k_ hk_=>Or.elim hk_ (fun hs_=>Or.elim hs_ (fun hs_=>fun e_=>(Kd.R_away HO_6.out (fun _ hk=>hk.1.2)) (by rw [← e_];exact hs_)) (fun hs_=>fun e_=>(Kd.R_away HO217.out (fun _ hk=>hk.2)) (by rw [← e_];exact hs_))) (fun hn_=>(Kd.freshB (g := gb212) (o := .cells #[.int .i64 ((rd_T40 l1 x23_2).f0),.int .u64 ((rd_T40 l1 x23_2).f1)] 40 (0,0)) q79_ k_ hn_))));have n2_ := Aside0.mk (hb);clear BK212;clear HB;clear HO217;clear HO_6;have BK212 := n0_;have HO220 := n1_;have HB := n2_;clear n0_ n1_ n2_;(try clear hb);(try clear hkp);(try clear ho0)))
          go_roundg k2
          case measure=>have := HJ2.out;have := HK2.out;omega
          case rel=>exact ⟨(t218),(wrap64 (x23_2 + 1)),q34_,H',⟨by have := HJ2.out;have := HK2.out;omega⟩,⟨by (with_reducible repeat (first|apply Kd.R_alloc|apply Kd.R_drewN|apply Kd.R_drew));exact Kd.R_mono HO220.out (fun _ hk=>trivial)⟩,⟨q52_⟩⟩
        ·rw [if_neg c15] at H
         exact absurd H (by simp)
       ·rw [if_neg c14] at H
        exact absurd H (by simp)
      ·rw [if_neg c13] at H
       have c13b0 : decide (x23_2 < (l1.length : Int)) = false := decide_eq_false c13
       clear c13
       simp only [Option.some.injEq,Prod.mk.injEq] at H
       obtain ⟨rfl,rfl⟩ := H
       go_wp2
       go_ret2
       exact ⟨_,q27_,q76_,bl_⟩

end Go.Proofs.YtbedpnklnamnhaaDoor.PG

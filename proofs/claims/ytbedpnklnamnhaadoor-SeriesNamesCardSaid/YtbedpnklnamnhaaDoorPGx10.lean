/- The machine side of these statements: what each Go function computes as a plain function, and that its call computes just that. Written by a program of mine (wip/drive.py). No conditions. -/
import Derived.Test.YtbedpnklnamnhaaDoorPGx0
import Derived.Test.YtbedpnklnamnhaaDoorPGx4
import Derived.Test.YtbedpnklnamnhaaDoorPGx5
import Derived.Test.YtbedpnklnamnhaaDoorPGx8
namespace Go.Proofs.YtbedpnklnamnhaaDoor.PG
open Go.RowKit Go.Proofs.YtbedpnklnamnhaaDoorW.PrintWords Go.Proofs.YtbedpnklnamnhaaDoorW.PrintLast Go.Proofs.YtbedpnklnamnhaaDoorW.PrintMore
attribute [local go_sem] max2_int min2_int max_two min_two max_three min_three max_four min_four   -- for this text's walks alone
set_option linter.unusedVariables false
set_option linter.unusedSimpArgs false

/-! ### series_Put: function 20 -/
def series_Put.l0 : Nat → List (S40) → List Int → List (S40) → Int → Int → Option ((List (S40)) × List Int × Int)
 | 0,_,_,_,_,_=>none
 | k + 1,x4,x5,x15,x16,x17=>if x17 < x16 then (if 0 ≤ x17 then (if x17 < (x15.length : Int) then ((series_judge.f k x4 ((rd_T40 x15 x17).f0) ((rd_T40 x15 x17).f1)).bind fun t140=>(if t140 = 1 then (if x4.length < 8796093022208 then (if x5.length < 140737488355328 then (series_Put.l0 k (x4 ++ [(⟨(rd_T40 x15 x17).f0,(rd_T40 x15 x17).f1⟩ : S40)]) (x5 ++ [t140]) x15 x16 (wrap64 (x17 + 1))) else (none)) else (none)) else (if x5.length < 140737488355328 then (series_Put.l0 k x4 (x5 ++ [t140]) x15 x16 (wrap64 (x17 + 1))) else (none)))) else (none)) else (none)) else (some (x4,x5,0))
def series_Put.f (k : Nat) (l0 : List (S40)) (l1 : List (S40)) : Option ((List (S40)) × List Int × Int) := (series_May.f k l0).bind fun t134 => (if t134 = true then ((slices_Clone.f l0).bind fun t135 => (series_Put.l0 k t135 ([] : List Int) l1 (l1.length : Int) 0)) else (some (([] : List (S40)), ([] : List Int), 4)))
theorem series_Put.mono_l : ∀ k, (∀ y0 y1 y2 y3 y4, LeO (series_Put.l0 k y0 y1 y2 y3 y4) (series_Put.l0 (k + 1) y0 y1 y2 y3 y4))
 | 0=>fun _ _ _ _ _ r h=>by simp [series_Put.l0] at h
 | k + 1=>by
  have ih0 := series_Put.mono_l k
  ·intro y0 y1 y2 y3 y4
   unfold series_Put.l0
   repeat' first
   | (with_reducible exact ih0 _ _ _ _ _)
   | (with_reducible exact series_May.mono _ _)
   | (with_reducible exact series_judge.mono _ _ _ _)
   | (with_reducible exact LeO.refl _)
   | (with_reducible exact LeO.none _)
   | (with_reducible refine LeO.ite ?_ ?_)
   | (with_reducible refine LeO.bind ?_ (fun _=>?_))
   | exact ih0 _ _ _ _ _
   | exact series_May.mono _ _
   | exact series_judge.mono _ _ _ _
   | exact LeO.none _
   | refine LeO.ite ?_ ?_
   | refine LeO.bind ?_ (fun _=>?_)
theorem series_Put.mono : ∀ a0 a1 k, LeO (series_Put.f k a0 a1) (series_Put.f (k + 1) a0 a1) := by
 intro a0 a1 k
 have ih0 := series_Put.mono_l k
 unfold series_Put.f
 repeat' first
   | (with_reducible exact ih0 _ _ _ _ _)
   | (with_reducible exact series_May.mono _ _)
   | (with_reducible exact series_judge.mono _ _ _ _)
   | (with_reducible exact LeO.refl _)
   | (with_reducible exact LeO.none _)
   | (with_reducible refine LeO.ite ?_ ?_)
   | (with_reducible refine LeO.bind ?_ (fun _=>?_))
   | exact ih0 _ _ _ _ _
   | exact series_May.mono _ _
   | exact series_judge.mono _ _ _ _
   | exact LeO.none _
   | refine LeO.ite ?_ ?_
   | refine LeO.bind ?_ (fun _=>?_)
set_option maxHeartbeats 8000000 in
set_option maxRecDepth 100000 in
theorem series_Put.calls (k : Nat) (A0 : Option Addr) (c0 : Nat) (l0 : List (S40)) (A1 : Option Addr) (c1 : Nat) (l1 : List (S40)) (r1 : List (S40)) (r2 : List Int) (r3 : Int) (w : World) (hr0 : Kd.C k40 w A0 l0.length l0) (hc0 : l0.length ≤ c0) (hr1 : Kd.C k40 w A1 l1.length l1) (hc1 : l1.length ≤ c1) (h : series_Put.f k l0 l1 = some (r1, r2, r3)) :
  Calls Tryd.prog 20 #[.slice A0 l0.length c0,.slice A1 l1.length c1] w fun e w'=>∃ v0_ v1_ : Value,e = .returned (.tuple #[v0_,v1_,.int .i64 r3]) ∧ Kd.R k40 40 w' w.heap.size (fun _=>True) v0_ r1 ∧ Kd.R (Kd.int .u8) 31 w' w.heap.size (fun _=>True) v1_ r2 ∧ Below w.heap.size w w' := by
 have hu40 := Tryd.underlying40
 have HR0 := Aside0.mk hr0
 have HC0 := Aside0.mk hc0
 clear hr0 hc0
 have HR1 := Aside0.mk hr1
 have HC1 := Aside0.mk hc1
 clear hr1 hc1
 have HB := Aside0.mk (Below.refl w.heap.size w)
 have H : ((series_May.f k l0).bind fun t134=>(if t134 = true then ((slices_Clone.f l0).bind fun t135=>(series_Put.l0 k t135 ([] : List Int) l1 (l1.length : Int) 0)) else (some (([] : List (S40)),([] : List Int),4)))) = some (r1,r2,r3) := h
 clear h
 replace H := Option.bind_eq_some_iff.mp H
 obtain ⟨t134,A30,H⟩ := H
 replace H : (if t134 = true then ((slices_Clone.f l0).bind fun t135=>(series_Put.l0 k t135 ([] : List Int) l1 (l1.length : Int) 0)) else (some (([] : List (S40)),([] : List Int),4))) = some (r1,r2,r3) := H
 have A3 := Aside0.mk A30
 clear A30
 by_cases c4 : t134 = true
 ·subst c4
  have H1 : ((slices_Clone.f l0).bind fun t135=>(series_Put.l0 k t135 ([] : List Int) l1 (l1.length : Int) 0)) = some (r1,r2,r3) := by rw [if_pos rfl] at H;exact H
  clear H
  have H := H1
  clear H1
  replace H := Option.bind_eq_some_iff.mp H
  obtain ⟨t135,A50,H⟩ := H
  replace H : (series_Put.l0 k t135 ([] : List Int) l1 (l1.length : Int) 0) = some (r1,r2,r3) := H
  have A5 := Aside0.mk A50
  clear A50
  have H' := Aside0.mk H
  clear H
  go_enter Tryd.func20,Tryd.ntmps20
  go_wp2_with (first|((with_reducible refine gate_callee (f := 16) rfl ?_);refine goesL_ (some 11) rfl rfl Tryd.func16 q38_ rfl #[.slice A0 l0.length c0] rfl q2_ ?_;(with_reducible refine (series_May.calls k _ _ l0 true _ ?side1 ?side2 A3.out).mono ?_);(case side1=>repeat (first|exact HR0.out|(with_reducible refine Kd.C_alloc ?_ _)|(with_reducible refine Kd.C_drewN ?_ _)|(with_reducible refine Kd.C_drew ?_)));(case side2=>exact HC0.out);rintro e w6 ⟨rfl,hb⟩;refine ⟨_,rfl,?_⟩;have n0_ := Aside0.mk (below_step (bl_) hb);clear HB;have HB := n0_;clear n0_;(try clear hb);(try clear hb2);(try clear hk);(try clear hi))|((with_reducible refine gate_callee (f := 23) rfl ?_);refine goesL_ (some 14) rfl rfl Tryd.func23 q38_ rfl #[.slice A0 l0.length c0] rfl q2_ ?_;(with_reducible refine (slices_Clone.calls _ _ l0 t135 _ ?side1 ?side2 A5.out).mono ?_);(case side1=>repeat (first|exact (Kd.C_below HR0.out HB.out)|(with_reducible refine Kd.C_alloc ?_ _)|(with_reducible refine Kd.C_drewN ?_ _)|(with_reducible refine Kd.C_drew ?_)));(case side2=>exact HC0.out);rintro e w7 ⟨v136,rfl,ho0,hb⟩;refine ⟨_,rfl,?_⟩;have n0_ := Aside0.mk (Kd.R_lower ho0 (below_size (bl_)));have n1_ := Aside0.mk (below_step (bl_) hb);clear HB;have HO137 := n0_;have HB := n1_;clear n0_ n1_;(try clear hb);(try clear hb2);(try clear hk);(try clear hi);(try clear ho0)))
  go_loopg [4,5,17] k (fun kq v4 v5 v17 w'=>∃ (x4_1 : List (S40)) (x5_1 : List Int) (x17_1 : Int),v17 = .int .i64 x17_1 ∧ Aside0 (series_Put.l0 kq x4_1 x5_1 l1 (l1.length : Int) x17_1 = some (r1,r2,r3)) ∧ Aside0 (kq ≤ k) ∧ Aside0 (Kd.R k40 40 w' w.heap.size (fun _=>True) v4 x4_1) ∧ Aside0 (Kd.R (Kd.int .u8) 31 w' w.heap.size (fun _=>True) v5 x5_1) ∧ Aside0 (Below w.heap.size w w'))
  case atStart=>exact ⟨(t135),(([] : List Int)),(0),q34_,H',⟨Nat.le_refl _⟩,⟨by (with_reducible repeat (first|apply Kd.R_alloc|apply Kd.R_drewN|apply Kd.R_drew));exact HO137.out⟩,⟨q56_⟩,⟨bl_⟩⟩
  case round =>
   clear H'
   try clear c1
   try clear c2
   try clear p2
   try clear c4
   obtain ⟨x4_1,x5_1,x17_1,rfl,HA,HK1,HO_4,HO_5,HB⟩ := hrel
   cases gk with
   | zero=>exact absurd HA.out (by simp [series_Put.l0])
   | succ k1 =>
    have H := HA.out
    clear HA
    simp only [series_Put.l0] at H
    by_cases c8 : x17_1 < (l1.length : Int)
    ·rw [if_pos c8] at H
     have c8b0 : decide (x17_1 < (l1.length : Int)) = true := decide_eq_true c8
     clear c8
     by_cases c9 : 0 ≤ x17_1
     ·rw [if_pos c9] at H
      have c9b0 : decide (0 ≤ x17_1) = true := decide_eq_true c9
      clear c9
      by_cases c10 : x17_1 < (l1.length : Int)
      ·rw [if_pos c10] at H
       have c10b0 : decide (x17_1 < (l1.length : Int)) = true := decide_eq_true c10
       clear c10
       replace H := Option.bind_eq_some_iff.mp H
       obtain ⟨t140,A110,H⟩ := H
       replace H : (if t140 = 1 then (if x4_1.length < 8796093022208 then (if x5_1.length < 140737488355328 then (series_Put.l0 k1 (x4_1 ++ [(⟨(rd_T40 l1 x17_1).f0,(rd_T40 l1 x17_1).f1⟩ : S40)]) (x5_1 ++ [t140]) l1 (l1.length : Int) (wrap64 (x17_1 + 1))) else (none)) else (none)) else (if x5_1.length < 140737488355328 then (series_Put.l0 k1 x4_1 (x5_1 ++ [t140]) l1 (l1.length : Int) (wrap64 (x17_1 + 1))) else (none))) = some (r1,r2,r3) := H
       have A11 := Aside0.mk A110
       clear A110
       by_cases c12 : t140 = 1
       ·rw [if_pos c12] at H
        have c12b0 : (t140 == 1) = true := beq_iff_eq.mpr c12
        have c12b1 : (t140 != 1) = false := bne_eq_false_iff_eq.mpr c12
        clear c12
        by_cases c13 : x4_1.length < 8796093022208
        ·rw [if_pos c13] at H
         have LMc13 := Aside0.mk c13
         clear c13
         obtain ⟨y141,hy141⟩ : ∃ y_ : List (S40),y_ = (x4_1 ++ [(⟨(rd_T40 l1 x17_1).f0,(rd_T40 l1 x17_1).f1⟩ : S40)]) := ⟨_,rfl⟩
         replace H : (if x5_1.length < 140737488355328 then (series_Put.l0 k1 y141 (x5_1 ++ [t140]) l1 (l1.length : Int) (wrap64 (x17_1 + 1))) else (none)) = some (r1,r2,r3) := by first|(rw [hy141];with_reducible exact H)|(have H2_ := (Option.bind_some _ _).symm.trans H;rw [hy141];with_reducible exact H2_)|(have H2_ := (Option.bind_some _ _).symm.trans H;with_reducible exact H2_)|with_reducible exact H|(rw [hy141];exact H)|exact H
         have Ny141 := Aside0.mk hy141
         clear hy141
         by_cases c14 : x5_1.length < 140737488355328
         ·rw [if_pos c14] at H
          have LMc14 := Aside0.mk c14
          clear c14
          obtain ⟨y144,hy144⟩ : ∃ y_ : List Int,y_ = (x5_1 ++ [t140]) := ⟨_,rfl⟩
          replace H : (series_Put.l0 k1 y141 y144 l1 (l1.length : Int) (wrap64 (x17_1 + 1))) = some (r1,r2,r3) := by first|(rw [hy144];with_reducible exact H)|(have H2_ := (Option.bind_some _ _).symm.trans H;rw [hy144];with_reducible exact H2_)|(have H2_ := (Option.bind_some _ _).symm.trans H;with_reducible exact H2_)|with_reducible exact H|(rw [hy144];exact H)|exact H
          have Ny144 := Aside0.mk hy144
          clear hy144
          have H' := Aside0.mk H
          clear H
          have p138 : 0 ≤ (x17_1 : Int) := of_decide_eq_true q19_
          have q138 : x17_1 < (l1.length : Int) := of_decide_eq_true q19_
          obtain ⟨ad138,e138,hx138_0,hx138_1⟩ := at_T40 HR1.out x17_1 p138 q138
          cases e138
          replace hx138_0 := (HB.out.cell (World.block_lt_of_cell? w _ hx138_0)).trans hx138_0
          replace hx138_1 := (HB.out.cell (World.block_lt_of_cell? w _ hx138_1)).trans hx138_1
          replace p138 := eq_true p138
          replace q138 := eq_true q138
          go_wp2_with (first|((with_reducible refine gate_dst (N := 8) rfl ?_);refine box_event ?hg (N := 8) ?hd (cs := #[.int .i64 0,.int .u64 0]) (t := 40) ?hr ?_;(case hd=>rfl);(case hg=>rfl);(case hr=>first|(go_simp;done)|(go_simp;rfl)|(go_simp;simp [my_u8w];done));intro gb139 hg w15 hbox hb;have n0_ := Aside0.mk (Kd.R_below (Kd.R_elderB q75_ gb139 (Nat.le_of_eq hg.symm)) hb);have n1_ := Aside0.mk (Kd.R_below q54_ hb);have n2_ := Aside0.mk (below_step (bl_) hb);have n3_ := Aside0.mk (hbox);have n4_ := Aside0.mk ((by rw [hg];exact (below_size (bl_)) : w.heap.size ≤ gb139));have n5_ := Aside0.mk ((by rw [hg];exact (below_size (bl_)) : w.heap.size ≤ gb139));clear HO_4;clear HO_5;clear HB;have HO_4 := n0_;have HO_5 := n1_;have HB := n2_;have BK139 := n3_;have GW139 := n4_;have GE139 := n5_;clear n0_ n1_ n2_ n3_ n4_ n5_;clear hb hbox hg;have hcz16_0 : w15.cell? ⟨gb139,0,none⟩ = some (.int .i64 0) := (blk_cell BK139.out 0).trans rfl;have hcz16_1 : w15.cell? ⟨gb139,1,none⟩ = some (.int .u64 0) := (blk_cell BK139.out 1).trans rfl;have hfz16_0 := blk_frozen BK139.out 0;have hfz16_1 := blk_frozen BK139.out 1;obtain ⟨Ao17,co17,eo17⟩ := Kd.R_slice HO_4.out;subst eo17)|((with_reducible refine gate_callee (f := 28) rfl ?_);refine goesL_ (some 23) rfl rfl Tryd.func28 q38_ rfl #[.slice Ao17 x4_1.length co17,.agg #[.int .i64 ((rd_T40 l1 x17_1).f0),.int .u64 ((rd_T40 l1 x17_1).f1)]] rfl q2_ ?_;(with_reducible refine (series_judge.calls k1 _ _ x4_1 ((rd_T40 l1 x17_1).f0) ((rd_T40 l1 x17_1).f1) t140 _ ?side1 ?side2 A11.out).mono ?_);(case side1=>refine (Kd.R_reads' (e := 40) (base := w.heap.size) (ok := fun k_=>(True ∧ k_ ≠ gb139)) (n := x4_1.length) (c := co17) ?_).2.2;exact q44_);(case side2=>exact (Kd.R_reads' HO_4.out).2.1);rintro e w18 ⟨rfl,hb⟩;refine ⟨_,rfl,?_⟩;have n0_ := Aside0.mk (Kd.R_below q44_ hb);have n1_ := Aside0.mk (Kd.R_below q77_ hb);have n2_ := Aside0.mk (blk_below (g := gb139) (o := .cells #[.int .i64 ((rd_T40 l1 x17_1).f0),.int .u64 ((rd_T40 l1 x17_1).f1)] 40 (0,0)) q70_ hb);have n3_ := Aside0.mk (below_step q40_ hb);clear HO_4;clear HO_5;clear BK139;clear HB;have HO_4 := n0_;have HO_5 := n1_;have BK139 := n2_;have HB := n3_;clear n0_ n1_ n2_ n3_;(try clear hb);(try clear hb2);(try clear hk);(try clear hi);have hcz19_0 : w18.cell? ⟨gb139,0,none⟩ = some (.int .i64 ((rd_T40 l1 x17_1).f0)) := (blk_cell BK139.out 0).trans rfl;have hcz19_1 : w18.cell? ⟨gb139,1,none⟩ = some (.int .u64 ((rd_T40 l1 x17_1).f1)) := (blk_cell BK139.out 1).trans rfl;have hfz19_0 := blk_frozen BK139.out 0;have hfz19_1 := blk_frozen BK139.out 1)|((with_reducible refine gate_builtin (b := .append) (xs := #[.tmp 26,.tmp 28]) rfl ?_);at_builtin;refine Kd.R_append k40 (w0 := w) w.heap.size rfl (.tmp 26) (.tmp 28) 22 40 (.agg #[(.int .i64 0),(.int .u64 0)]) 16 rfl Tryd.underlying22 info40 rfl (by decide) q72_ (.slice Ao17 x4_1.length co17) x4_1 (⟨(rd_T40 l1 x17_1).f0,(rd_T40 l1 x17_1).f1⟩ : S40) [.int .i64 ((rd_T40 l1 x17_1).f0),.int .u64 ((rd_T40 l1 x17_1).f1)] (fun k_=>k_ ≠ gb139) (fun _=>False) rfl rfl ?aP (fun _ hk=>hk.elim) ?aF ?aO ?aB ?aS ?aL ?_;(case aP=>exact k40_mkM _ _ _ (⟨(rd_T40 l1 x17_1).f0,(rd_T40 l1 x17_1).f1⟩ : S40));(case aB=>exact q40_);(case aF=>exact (fun k_ hk=>Kd.freshB (g := gb139) (o := .cells #[.int .i64 ((rd_T40 l1 x17_1).f0),.int .u64 ((rd_T40 l1 x17_1).f1)] 40 (0,0)) q78_ k_ hk));(case aO=>exact (by (with_reducible repeat (first|apply Kd.R_alloc|apply Kd.R_drewN|apply Kd.R_drew));exact Kd.R_mono HO_4.out (fun _ hk=>hk.2)));(case aS=>exact (below_size q40_));(case aL=>have := LMc13.out;omega);intro v142 w20 ho hb hg hat;rw [← Ny141.out] at ho;have n0_ := Aside0.mk (Kd.R_over' q54_ (Kd.R_typed q75_) (by decide) hg);have n1_ := Aside0.mk (blk_grown (g := gb139) (o := .cells #[.int .i64 ((rd_T40 l1 x17_1).f0),.int .u64 ((rd_T40 l1 x17_1).f1)] 40 (0,0)) q78_ hg (Kd.R_away HO_4.out (fun _ hk=>hk.2)));have n2_ := Aside0.mk (hb);have n3_ := Aside0.mk (ho);clear HO_5;clear BK139;clear HB;clear HO_4;have HO_5 := n0_;have BK139 := n1_;have HB := n2_;have HO143 := n3_;clear n0_ n1_ n2_ n3_;clear ho hb hg hat)|((with_reducible refine gate_builtin (b := .append) (xs := #[.tmp 30,.tmp 32]) rfl ?_);at_builtin;refine Kd.R_append (Kd.int .u8) (w0 := w) w.heap.size rfl (.tmp 30) (.tmp 32) 30 31 (.int .u8 0) 1 rfl Tryd.underlying30 info31 rfl (by decide) q72_ u5 x5_1 t140 [.int .u8 t140] (fun _=>True) (fun _=>False) rfl rfl ?aP (fun _ hk=>hk.elim) ?aF ?aO ?aB ?aS ?aL ?_;(case aP=>exact rfl);(case aB=>exact q40_);(case aF=>exact (fun _ _=>trivial));(case aO=>exact q54_);(case aS=>exact (below_size q40_));(case aL=>have := LMc14.out;omega);intro v145 w21 ho hb hg hat;rw [← Ny144.out] at ho;have n0_ := Aside0.mk (blk_grown (g := gb139) (o := .cells #[.int .i64 ((rd_T40 l1 x17_1).f0),.int .u64 ((rd_T40 l1 x17_1).f1)] 40 (0,0)) q78_ hg (Kd.R_ne HO_5.out BK139.out (by decide)));have n1_ := Aside0.mk (Kd.R_over' (by (with_reducible repeat (first|apply Kd.R_alloc|apply Kd.R_drewN|apply Kd.R_drew));exact HO143.out) (Kd.R_typed q54_) (by decide) hg);have n2_ := Aside0.mk (hb);have n3_ := Aside0.mk (ho);clear BK139;clear HO143;clear HB;clear HO_5;have BK139 := n0_;have HO143 := n1_;have HB := n2_;have HO146 := n3_;clear n0_ n1_ n2_ n3_;clear ho hb hg hat))
          go_roundg k1
          case measure=>have := HK1.out;omega
          case rel=>exact ⟨(y141),(y144),(wrap64 (x17_1 + 1)),q34_,H',⟨q84_⟩,⟨by (with_reducible repeat (first|apply Kd.R_alloc|apply Kd.R_drewN|apply Kd.R_drew));exact Kd.R_mono HO143.out (fun _ hk=>trivial)⟩,⟨by (with_reducible repeat (first|apply Kd.R_alloc|apply Kd.R_drewN|apply Kd.R_drew));exact HO146.out⟩,⟨q40_⟩⟩
         ·rw [if_neg c14] at H
          exact absurd H (by simp)
        ·rw [if_neg c13] at H
         exact absurd H (by simp)
       ·rw [if_neg c12] at H
        have c12b0 : (t140 == 1) = false := beq_eq_false_iff_ne.mpr c12
        have c12b1 : (t140 != 1) = true := bne_iff_ne.mpr c12
        by_cases c22 : x5_1.length < 140737488355328
        ·rw [if_pos c22] at H
         have LMc22 := Aside0.mk c22
         clear c22
         obtain ⟨y147,hy147⟩ : ∃ y_ : List Int,y_ = (x5_1 ++ [t140]) := ⟨_,rfl⟩
         replace H : (series_Put.l0 k1 x4_1 y147 l1 (l1.length : Int) (wrap64 (x17_1 + 1))) = some (r1,r2,r3) := by first|(rw [hy147];with_reducible exact H)|(have H2_ := (Option.bind_some _ _).symm.trans H;rw [hy147];with_reducible exact H2_)|(have H2_ := (Option.bind_some _ _).symm.trans H;with_reducible exact H2_)|with_reducible exact H|(rw [hy147];exact H)|exact H
         have Ny147 := Aside0.mk hy147
         clear hy147
         have H' := Aside0.mk H
         clear H
         have p138 : 0 ≤ (x17_1 : Int) := of_decide_eq_true q19_
         have q138 : x17_1 < (l1.length : Int) := of_decide_eq_true q19_
         obtain ⟨ad138,e138,hx138_0,hx138_1⟩ := at_T40 HR1.out x17_1 p138 q138
         cases e138
         replace hx138_0 := (HB.out.cell (World.block_lt_of_cell? w _ hx138_0)).trans hx138_0
         replace hx138_1 := (HB.out.cell (World.block_lt_of_cell? w _ hx138_1)).trans hx138_1
         replace p138 := eq_true p138
         replace q138 := eq_true q138
         go_wp2_with (first|((with_reducible refine gate_dst (N := 8) rfl ?_);refine box_event ?hg (N := 8) ?hd (cs := #[.int .i64 0,.int .u64 0]) (t := 40) ?hr ?_;(case hd=>rfl);(case hg=>rfl);(case hr=>first|(go_simp;done)|(go_simp;rfl)|(go_simp;simp [my_u8w];done));intro gb139 hg w23 hbox hb;have n0_ := Aside0.mk (Kd.R_below (Kd.R_elderB q75_ gb139 (Nat.le_of_eq hg.symm)) hb);have n1_ := Aside0.mk (Kd.R_below q54_ hb);have n2_ := Aside0.mk (below_step (bl_) hb);have n3_ := Aside0.mk (hbox);have n4_ := Aside0.mk ((by rw [hg];exact (below_size (bl_)) : w.heap.size ≤ gb139));have n5_ := Aside0.mk ((by rw [hg];exact (below_size (bl_)) : w.heap.size ≤ gb139));clear HO_4;clear HO_5;clear HB;have HO_4 := n0_;have HO_5 := n1_;have HB := n2_;have BK139 := n3_;have GW139 := n4_;have GE139 := n5_;clear n0_ n1_ n2_ n3_ n4_ n5_;clear hb hbox hg;have hcz24_0 : w23.cell? ⟨gb139,0,none⟩ = some (.int .i64 0) := (blk_cell BK139.out 0).trans rfl;have hcz24_1 : w23.cell? ⟨gb139,1,none⟩ = some (.int .u64 0) := (blk_cell BK139.out 1).trans rfl;have hfz24_0 := blk_frozen BK139.out 0;have hfz24_1 := blk_frozen BK139.out 1;obtain ⟨Ao25,co25,eo25⟩ := Kd.R_slice HO_4.out;subst eo25)|((with_reducible refine gate_callee (f := 28) rfl ?_);refine goesL_ (some 23) rfl rfl Tryd.func28 q38_ rfl #[.slice Ao25 x4_1.length co25,.agg #[.int .i64 ((rd_T40 l1 x17_1).f0),.int .u64 ((rd_T40 l1 x17_1).f1)]] rfl q2_ ?_;(with_reducible refine (series_judge.calls k1 _ _ x4_1 ((rd_T40 l1 x17_1).f0) ((rd_T40 l1 x17_1).f1) t140 _ ?side1 ?side2 A11.out).mono ?_);(case side1=>refine (Kd.R_reads' (e := 40) (base := w.heap.size) (ok := fun k_=>(True ∧ k_ ≠ gb139)) (n := x4_1.length) (c := co25) ?_).2.2;exact q44_);(case side2=>exact (Kd.R_reads' HO_4.out).2.1);rintro e w26 ⟨rfl,hb⟩;refine ⟨_,rfl,?_⟩;have n0_ := Aside0.mk (Kd.R_below q44_ hb);have n1_ := Aside0.mk (Kd.R_below q77_ hb);have n2_ := Aside0.mk (blk_below (g := gb139) (o := .cells #[.int .i64 ((rd_T40 l1 x17_1).f0),.int .u64 ((rd_T40 l1 x17_1).f1)] 40 (0,0)) q70_ hb);have n3_ := Aside0.mk (below_step q40_ hb);clear HO_4;clear HO_5;clear BK139;clear HB;have HO_4 := n0_;have HO_5 := n1_;have BK139 := n2_;have HB := n3_;clear n0_ n1_ n2_ n3_;(try clear hb);(try clear hb2);(try clear hk);(try clear hi))|((with_reducible refine gate_builtin (b := .append) (xs := #[.tmp 30,.tmp 32]) rfl ?_);at_builtin;refine Kd.R_append (Kd.int .u8) (w0 := w) w.heap.size rfl (.tmp 30) (.tmp 32) 30 31 (.int .u8 0) 1 rfl Tryd.underlying30 info31 rfl (by decide) q72_ u5 x5_1 t140 [.int .u8 t140] (fun _=>True) (fun _=>False) rfl rfl ?aP (fun _ hk=>hk.elim) ?aF ?aO ?aB ?aS ?aL ?_;(case aP=>exact rfl);(case aB=>exact q40_);(case aF=>exact (fun _ _=>trivial));(case aO=>exact q54_);(case aS=>exact (below_size q40_));(case aL=>have := LMc22.out;omega);intro v148 w27 ho hb hg hat;rw [← Ny147.out] at ho;have n0_ := Aside0.mk (Kd.R_over' q75_ (Kd.R_typed q54_) (by decide) hg);have n1_ := Aside0.mk (blk_grown (g := gb139) (o := .cells #[.int .i64 ((rd_T40 l1 x17_1).f0),.int .u64 ((rd_T40 l1 x17_1).f1)] 40 (0,0)) q78_ hg (Kd.R_ne HO_5.out BK139.out (by decide)));have n2_ := Aside0.mk (hb);have n3_ := Aside0.mk (ho);clear HO_4;clear BK139;clear HB;clear HO_5;have HO_4 := n0_;have BK139 := n1_;have HB := n2_;have HO149 := n3_;clear n0_ n1_ n2_ n3_;clear ho hb hg hat))
         go_roundg k1
         case measure=>have := HK1.out;omega
         case rel=>exact ⟨(x4_1),(y147),(wrap64 (x17_1 + 1)),q34_,H',⟨q84_⟩,⟨by (with_reducible repeat (first|apply Kd.R_alloc|apply Kd.R_drewN|apply Kd.R_drew));exact Kd.R_mono HO_4.out (fun _ hk=>trivial)⟩,⟨by (with_reducible repeat (first|apply Kd.R_alloc|apply Kd.R_drewN|apply Kd.R_drew));exact HO149.out⟩,⟨q40_⟩⟩
        ·rw [if_neg c22] at H
         exact absurd H (by simp)
      ·rw [if_neg c10] at H
       exact absurd H (by simp)
     ·rw [if_neg c9] at H
      exact absurd H (by simp)
    ·rw [if_neg c8] at H
     have c8b0 : decide (x17_1 < (l1.length : Int)) = false := decide_eq_false c8
     clear c8
     simp only [Option.some.injEq,Prod.mk.injEq] at H
     obtain ⟨rfl,rfl,rfl⟩ := H
     go_wp2
     go_ret3
     exact ⟨_,_,q27_,q75_,q54_,bl_⟩
 ·replace c4 := Bool.eq_false_iff.mpr c4
  subst c4
  have H1 : (some (([] : List (S40)),([] : List Int),4)) = some (r1,r2,r3) := by rw [if_neg (show ¬ (false = true) by decide)] at H;exact H
  clear H
  have H := H1
  clear H1
  simp only [Option.some.injEq,Prod.mk.injEq] at H
  obtain ⟨rfl,rfl,rfl⟩ := H
  go_enter Tryd.func20,Tryd.ntmps20
  go_wp2_with (first|((with_reducible refine gate_callee (f := 16) rfl ?_);refine goesL_ (some 11) rfl rfl Tryd.func16 q38_ rfl #[.slice A0 l0.length c0] rfl q2_ ?_;(with_reducible refine (series_May.calls k _ _ l0 false _ ?side1 ?side2 A3.out).mono ?_);(case side1=>repeat (first|exact HR0.out|(with_reducible refine Kd.C_alloc ?_ _)|(with_reducible refine Kd.C_drewN ?_ _)|(with_reducible refine Kd.C_drew ?_)));(case side2=>exact HC0.out);rintro e w28 ⟨rfl,hb⟩;refine ⟨_,rfl,?_⟩;have n0_ := Aside0.mk (below_step (bl_) hb);clear HB;have HB := n0_;clear n0_;(try clear hb);(try clear hb2);(try clear hk);(try clear hi)))
  go_ret3
  exact ⟨_,_,q27_,q56_,q56_,bl_⟩

end Go.Proofs.YtbedpnklnamnhaaDoor.PG

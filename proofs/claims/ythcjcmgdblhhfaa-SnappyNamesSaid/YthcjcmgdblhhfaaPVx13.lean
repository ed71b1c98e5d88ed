/- The machine side of these statements: what each Go function computes as a plain function, and that its call computes just that. Written by a program of mine (wip/drive.py). No conditions. -/
import Derived.Test.YthcjcmgdblhhfaaPVx0
import Derived.Test.YthcjcmgdblhhfaaPVx9
namespace Go.Proofs.Ythcjcmgdblhhfaa.PV
open Go.RowKit Go.Proofs.YthcjcmgdblhhfaaW.PrintWords Go.Proofs.YthcjcmgdblhhfaaW.PrintLast Go.Proofs.YthcjcmgdblhhfaaW.PrintMore
attribute [local go_sem] max2_int min2_int max_two min_two max_three min_three max_four min_four   -- for this text's walks alone
set_option linter.unusedVariables false
set_option linter.unusedSimpArgs false

/-! ### snappy_Expand: function 17 -/
def snappy_Expand.l0 : Nat → Int → List Int → List (S35) → Int → Int → Option (ByteArray × Int)
 | 0,_,_,_,_,_=>none
 | k + 1,x1,x6,x11,x12,x13=>if x13 < x12 then (if 0 ≤ x13 then (if x13 < (x11.length : Int) then ((snappy_Part_add.f k ((rd_T35 x11 x13).f0) ((rd_T35 x11 x13).f1) ((rd_T35 x11 x13).f2) ((rd_T35 x11 x13).f3) x6 x1).bind fun bt211=>(if bt211.2 = 0 then (snappy_Expand.l0 k x1 bt211.1 x11 x12 (wrap64 (x13 + 1))) else (some ((⟨#[]⟩ : ByteArray),bt211.2)))) else (none)) else (none)) else (some (strOfNums x6,0))
def snappy_Expand.f (k : Nat) (l0 : List (S35)) (a1 : Int) : Option (ByteArray × Int) := snappy_Expand.l0 k a1 ([] : List Int) l0 (l0.length : Int) 0
theorem snappy_Expand.mono_l : ∀ k, (∀ y0 y1 y2 y3 y4, LeO (snappy_Expand.l0 k y0 y1 y2 y3 y4) (snappy_Expand.l0 (k + 1) y0 y1 y2 y3 y4))
 | 0=>fun _ _ _ _ _ r h=>by simp [snappy_Expand.l0] at h
 | k + 1=>by
  have ih0 := snappy_Expand.mono_l k
  ·intro y0 y1 y2 y3 y4
   unfold snappy_Expand.l0
   repeat' first
   | (with_reducible exact ih0 _ _ _ _ _)
   | (with_reducible exact snappy_Part_add.mono _ _ _ _ _ _ _)
   | (with_reducible exact LeO.refl _)
   | (with_reducible exact LeO.none _)
   | (with_reducible refine LeO.ite ?_ ?_)
   | (with_reducible refine LeO.bind ?_ (fun _=>?_))
   | exact ih0 _ _ _ _ _
   | exact snappy_Part_add.mono _ _ _ _ _ _ _
   | exact LeO.none _
   | refine LeO.ite ?_ ?_
   | refine LeO.bind ?_ (fun _=>?_)
theorem snappy_Expand.mono : ∀ a0 a1 k, LeO (snappy_Expand.f k a0 a1) (snappy_Expand.f (k + 1) a0 a1) := by
 intro a0 a1 k
 have ih0 := snappy_Expand.mono_l k
 unfold snappy_Expand.f
 repeat' first
   | (with_reducible exact ih0 _ _ _ _ _)
   | (with_reducible exact snappy_Part_add.mono _ _ _ _ _ _ _)
   | (with_reducible exact LeO.refl _)
   | (with_reducible exact LeO.none _)
   | (with_reducible refine LeO.ite ?_ ?_)
   | (with_reducible refine LeO.bind ?_ (fun _=>?_))
   | exact ih0 _ _ _ _ _
   | exact snappy_Part_add.mono _ _ _ _ _ _ _
   | exact LeO.none _
   | refine LeO.ite ?_ ?_
   | refine LeO.bind ?_ (fun _=>?_)
set_option maxHeartbeats 8000000 in
set_option maxRecDepth 100000 in
theorem snappy_Expand.calls (k : Nat) (A0 : Option Addr) (c0 : Nat) (l0 : List (S35)) (a1 : Int) (r1 : ByteArray) (r2 : Int) (w : World) (hr0 : Kd.C k35 w A0 l0.length l0) (hc0 : l0.length ≤ c0) (h : snappy_Expand.f k l0 a1 = some (r1, r2)) :
  Calls Try.prog 17 #[.slice A0 l0.length c0,.int .i64 a1] w fun e w'=>e = .returned (.tuple #[.string r1,.int .i64 r2]) ∧ Below w.heap.size w w' := by
 have hu35 := Try.underlying35
 have HR0 := Aside0.mk hr0
 have HC0 := Aside0.mk hc0
 clear hr0 hc0
 have HB := Aside0.mk (Below.refl w.heap.size w)
 have H : (snappy_Expand.l0 k a1 ([] : List Int) l0 (l0.length : Int) 0) = some (r1,r2) := h
 clear h
 have H' := Aside0.mk H
 clear H
 go_enter Try.func17,Try.ntmps17
 go_wp2
 go_loopg [6,13] k (fun kq v6 v13 w'=>∃ (x6_1 : List Int) (x13_1 : Int),v13 = .int .i64 x13_1 ∧ Aside0 (snappy_Expand.l0 kq a1 x6_1 l0 (l0.length : Int) x13_1 = some (r1,r2)) ∧ Aside0 (kq ≤ k) ∧ Aside0 (Kd.R (Kd.int .u8) 5 w' w.heap.size (fun _=>True) v6 x6_1) ∧ Aside0 (Below w.heap.size w w'))
 case atStart=>exact ⟨(([] : List Int)),(0),q4_,H',⟨Nat.le_refl _⟩,⟨q39_⟩,⟨bl_⟩⟩
 case round =>
  clear H'
  try clear c1
  try clear p2
  obtain ⟨x6_1,x13_1,rfl,HA,HK1,HO_6,HB⟩ := hrel
  cases gk with
  | zero=>exact absurd HA.out (by simp [snappy_Expand.l0])
  | succ k1 =>
   have H := HA.out
   clear HA
   simp only [snappy_Expand.l0] at H
   by_cases c3 : x13_1 < (l0.length : Int)
   ·rw [if_pos c3] at H
    have c3b0 : decide (x13_1 < (l0.length : Int)) = true := decide_eq_true c3
    clear c3
    by_cases c4 : 0 ≤ x13_1
    ·rw [if_pos c4] at H
     have c4b0 : decide (0 ≤ x13_1) = true := decide_eq_true c4
     clear c4
     by_cases c5 : x13_1 < (l0.length : Int)
     ·rw [if_pos c5] at H
      have c5b0 : decide (x13_1 < (l0.length : Int)) = true := decide_eq_true c5
      clear c5
      replace H := Option.bind_eq_some_iff.mp H
      obtain ⟨⟨t211,t214⟩,A60,H⟩ := H
      replace H : (if t214 = 0 then (snappy_Expand.l0 k1 a1 t211 l0 (l0.length : Int) (wrap64 (x13_1 + 1))) else (some ((⟨#[]⟩ : ByteArray),t214))) = some (r1,r2) := H
      have A6 := Aside0.mk A60
      clear A60
      by_cases c7 : t214 = 0
      ·rw [if_pos c7] at H
       have c7b0 : (t214 == 0) = true := beq_iff_eq.mpr c7
       have c7b1 : (t214 != 0) = false := bne_eq_false_iff_eq.mpr c7
       clear c7
       have H' := Aside0.mk H
       clear H
       have p209 : 0 ≤ (x13_1 : Int) := of_decide_eq_true q3_
       have q209 : x13_1 < (l0.length : Int) := of_decide_eq_true q3_
       obtain ⟨ad209,e209,hx209_0,hx209_1,hx209_2,hx209_3⟩ := at_T35 HR0.out x13_1 p209 q209
       cases e209
       replace hx209_0 := (HB.out.cell (World.block_lt_of_cell? w _ hx209_0)).trans hx209_0
       replace hx209_1 := (HB.out.cell (World.block_lt_of_cell? w _ hx209_1)).trans hx209_1
       replace hx209_2 := (HB.out.cell (World.block_lt_of_cell? w _ hx209_2)).trans hx209_2
       replace hx209_3 := (HB.out.cell (World.block_lt_of_cell? w _ hx209_3)).trans hx209_3
       replace p209 := eq_true p209
       replace q209 := eq_true q209
       go_wp2_with (first|((with_reducible refine gate_dst (N := 8) rfl ?_);refine box_event ?hg (N := 8) ?hd (cs := #[.bool false,.string (⟨#[]⟩ : ByteArray),.int .i64 0,.int .i64 0]) (t := 35) ?hr ?_;(case hd=>rfl);(case hg=>rfl);(case hr=>first|(go_simp;done)|(go_simp;rfl)|(go_simp;simp [my_u8w];done));intro gb210 hg w8 hbox hb;have n0_ := Aside0.mk (Kd.R_below q106_ hb);have n1_ := Aside0.mk (below_step (bl_) hb);have n2_ := Aside0.mk (hbox);have n3_ := Aside0.mk ((by rw [hg];exact (below_size (bl_)) : w.heap.size ≤ gb210));have n4_ := Aside0.mk ((by rw [hg];exact (below_size (bl_)) : w.heap.size ≤ gb210));clear HO_6;clear HB;have HO_6 := n0_;have HB := n1_;have BK210 := n2_;have GW210 := n3_;have GE210 := n4_;clear n0_ n1_ n2_ n3_ n4_;clear hb hbox hg;have hcz9_0 : w8.cell? ⟨gb210,0,none⟩ = some (.bool false) := (blk_cell BK210.out 0).trans rfl;have hcz9_1 : w8.cell? ⟨gb210,1,none⟩ = some (.string (⟨#[]⟩ : ByteArray)) := (blk_cell BK210.out 1).trans rfl;have hcz9_2 : w8.cell? ⟨gb210,2,none⟩ = some (.int .i64 0) := (blk_cell BK210.out 2).trans rfl;have hcz9_3 : w8.cell? ⟨gb210,3,none⟩ = some (.int .i64 0) := (blk_cell BK210.out 3).trans rfl;have hfz9_0 := blk_frozen BK210.out 0;have hfz9_1 := blk_frozen BK210.out 1;have hfz9_2 := blk_frozen BK210.out 2;have hfz9_3 := blk_frozen BK210.out 3)|((with_reducible refine gate_store (t := 35) (p := 8) rfl ?_);refine store_event (t := 35) (p := 8) (v := ?vo_w10) (w1 := ((((w8.setCell ⟨gb210,0,none⟩ (.bool ((rd_T35 l0 x13_1).f0))).setCell ⟨gb210,1,none⟩ (.string ((rd_T35 l0 x13_1).f1))).setCell ⟨gb210,2,none⟩ (.int .i64 ((rd_T35 l0 x13_1).f2))).setCell ⟨gb210,3,none⟩ (.int .i64 ((rd_T35 l0 x13_1).f3)))) ?hg ?ho ?hn ?hr ?_;(case ho=>rfl);(case hg=>rfl);(case hn=>rfl);(case hr=>first|(go_simp;done)|(go_simp;rfl)|(go_simp;simp [my_u8w];done));intro w10 hw;have n0_ : Aside0 (Kd.R (Kd.int .u8) 5 w10 w.heap.size (fun _=>True) u6 x6_1) := ⟨q74_⟩;have n1_ : Aside0 (w10.heap[gb210]? = some (.cells #[.bool ((rd_T35 l0 x13_1).f0),.string ((rd_T35 l0 x13_1).f1),.int .i64 ((rd_T35 l0 x13_1).f2),.int .i64 ((rd_T35 l0 x13_1).f3)] 35 (0,0))) := ⟨q56_⟩;have n2_ : Aside0 (Below w.heap.size w w10) := ⟨(by rw [hw];exact q80_)⟩;clear hw;clear HO_6;clear BK210;clear HB;have HO_6 := n0_;have BK210 := n1_;have HB := n2_;clear n0_ n1_ n2_;have hcz11_0 : w10.cell? ⟨gb210,0,none⟩ = some (.bool ((rd_T35 l0 x13_1).f0)) := (blk_cell BK210.out 0).trans rfl;have hcz11_1 : w10.cell? ⟨gb210,1,none⟩ = some (.string ((rd_T35 l0 x13_1).f1)) := (blk_cell BK210.out 1).trans rfl;have hcz11_2 : w10.cell? ⟨gb210,2,none⟩ = some (.int .i64 ((rd_T35 l0 x13_1).f2)) := (blk_cell BK210.out 2).trans rfl;have hcz11_3 : w10.cell? ⟨gb210,3,none⟩ = some (.int .i64 ((rd_T35 l0 x13_1).f3)) := (blk_cell BK210.out 3).trans rfl;have hfz11_0 := blk_frozen BK210.out 0;have hfz11_1 := blk_frozen BK210.out 1;have hfz11_2 := blk_frozen BK210.out 2;have hfz11_3 := blk_frozen BK210.out 3;obtain ⟨Ao12,co12,eo12⟩ := Kd.R_slice HO_6.out;subst eo12)|((with_reducible refine gate_callee (f := 38) rfl ?_);refine goesL_ (some 21) rfl rfl Try.func38 q9_ rfl #[.agg #[.bool ((rd_T35 l0 x13_1).f0),.string ((rd_T35 l0 x13_1).f1),.int .i64 ((rd_T35 l0 x13_1).f2),.int .i64 ((rd_T35 l0 x13_1).f3)],.slice Ao12 x6_1.length co12,.int .i64 a1] rfl q0_ ?_;(with_reducible refine (snappy_Part_add.calls k1 ((rd_T35 l0 x13_1).f0) ((rd_T35 l0 x13_1).f1) ((rd_T35 l0 x13_1).f2) ((rd_T35 l0 x13_1).f3) (fun k_=>some k_ = (.slice Ao12 x6_1.length co12 : Value).ownBlock) (.slice Ao12 x6_1.length co12) x6_1 a1 t211 t214 w _ ?side1 ?side2 A6.out).mono ?_);(case side1=>repeat (first|(with_reducible first|exact HB.out|apply below_alloc|apply pw_below_drewN|apply below_drew1|refine below_set ?_ GE210.out)|exact HB.out));(case side2=>exact Kd.R_tight rfl HO_6.out);rintro e w13 ⟨v212,rfl,ho0,hb,hkp⟩;refine ⟨_,rfl,?_⟩;have n0_ := Aside0.mk (blk_kept (by (with_reducible repeat (first|refine blk_drewN ?_ _|refine blk_drew ?_|refine blk_alloc ?_ _));exact BK210.out) hkp (fun hs_=>(fun e_=>(Kd.R_ne HO_6.out BK210.out (by decide)) e_) hs_));have n1_ := Aside0.mk (Kd.R_mono (ok' := fun k_=>True) ho0 (fun k_ hk_=>trivial));have n2_ := Aside0.mk (hb);clear BK210;clear HB;clear HO_6;have BK210 := n0_;have HO213 := n1_;have HB := n2_;clear n0_ n1_ n2_;(try clear hb);(try clear hkp);(try clear ho0)))
       go_roundg k1
       case measure=>have := HK1.out;omega
       case rel=>exact ⟨(t211),(wrap64 (x13_1 + 1)),q4_,H',⟨q85_⟩,⟨by (with_reducible repeat (first|apply Kd.R_alloc|apply Kd.R_drewN|apply Kd.R_drew));exact HO213.out⟩,⟨q80_⟩⟩
      ·rw [if_neg c7] at H
       have c7b0 : (t214 == 0) = false := beq_eq_false_iff_ne.mpr c7
       have c7b1 : (t214 != 0) = true := bne_iff_ne.mpr c7
       simp only [Option.some.injEq,Prod.mk.injEq] at H
       obtain ⟨rfl,rfl⟩ := H
       have p209 : 0 ≤ (x13_1 : Int) := of_decide_eq_true q3_
       have q209 : x13_1 < (l0.length : Int) := of_decide_eq_true q3_
       obtain ⟨ad209,e209,hx209_0,hx209_1,hx209_2,hx209_3⟩ := at_T35 HR0.out x13_1 p209 q209
       cases e209
       replace hx209_0 := (HB.out.cell (World.block_lt_of_cell? w _ hx209_0)).trans hx209_0
       replace hx209_1 := (HB.out.cell (World.block_lt_of_cell? w _ hx209_1)).trans hx209_1
       replace hx209_2 := (HB.out.cell (World.block_lt_of_cell? w _ hx209_2)).trans hx209_2
       replace hx209_3 := (HB.out.cell (World.block_lt_of_cell? w _ hx209_3)).trans hx209_3
       replace p209 := eq_true p209
       replace q209 := eq_true q209
       go_wp2_with (first|((with_reducible refine gate_dst (N := 8) rfl ?_);refine box_event ?hg (N := 8) ?hd (cs := #[.bool false,.string (⟨#[]⟩ : ByteArray),.int .i64 0,.int .i64 0]) (t := 35) ?hr ?_;(case hd=>rfl);(case hg=>rfl);(case hr=>first|(go_simp;done)|(go_simp;rfl)|(go_simp;simp [my_u8w];done));intro gb210 hg w14 hbox hb;have n0_ := Aside0.mk (Kd.R_below q106_ hb);have n1_ := Aside0.mk (below_step (bl_) hb);have n2_ := Aside0.mk (hbox);have n3_ := Aside0.mk ((by rw [hg];exact (below_size (bl_)) : w.heap.size ≤ gb210));have n4_ := Aside0.mk ((by rw [hg];exact (below_size (bl_)) : w.heap.size ≤ gb210));clear HO_6;clear HB;have HO_6 := n0_;have HB := n1_;have BK210 := n2_;have GW210 := n3_;have GE210 := n4_;clear n0_ n1_ n2_ n3_ n4_;clear hb hbox hg;have hcz15_0 : w14.cell? ⟨gb210,0,none⟩ = some (.bool false) := (blk_cell BK210.out 0).trans rfl;have hcz15_1 : w14.cell? ⟨gb210,1,none⟩ = some (.string (⟨#[]⟩ : ByteArray)) := (blk_cell BK210.out 1).trans rfl;have hcz15_2 : w14.cell? ⟨gb210,2,none⟩ = some (.int .i64 0) := (blk_cell BK210.out 2).trans rfl;have hcz15_3 : w14.cell? ⟨gb210,3,none⟩ = some (.int .i64 0) := (blk_cell BK210.out 3).trans rfl;have hfz15_0 := blk_frozen BK210.out 0;have hfz15_1 := blk_frozen BK210.out 1;have hfz15_2 := blk_frozen BK210.out 2;have hfz15_3 := blk_frozen BK210.out 3)|((with_reducible refine gate_store (t := 35) (p := 8) rfl ?_);refine store_event (t := 35) (p := 8) (v := ?vo_w16) (w1 := ((((w14.setCell ⟨gb210,0,none⟩ (.bool ((rd_T35 l0 x13_1).f0))).setCell ⟨gb210,1,none⟩ (.string ((rd_T35 l0 x13_1).f1))).setCell ⟨gb210,2,none⟩ (.int .i64 ((rd_T35 l0 x13_1).f2))).setCell ⟨gb210,3,none⟩ (.int .i64 ((rd_T35 l0 x13_1).f3)))) ?hg ?ho ?hn ?hr ?_;(case ho=>rfl);(case hg=>rfl);(case hn=>rfl);(case hr=>first|(go_simp;done)|(go_simp;rfl)|(go_simp;simp [my_u8w];done));intro w16 hw;have n0_ : Aside0 (Kd.R (Kd.int .u8) 5 w16 w.heap.size (fun _=>True) u6 x6_1) := ⟨q74_⟩;have n1_ : Aside0 (w16.heap[gb210]? = some (.cells #[.bool ((rd_T35 l0 x13_1).f0),.string ((rd_T35 l0 x13_1).f1),.int .i64 ((rd_T35 l0 x13_1).f2),.int .i64 ((rd_T35 l0 x13_1).f3)] 35 (0,0))) := ⟨q56_⟩;have n2_ : Aside0 (Below w.heap.size w w16) := ⟨(by rw [hw];exact q80_)⟩;clear hw;clear HO_6;clear BK210;clear HB;have HO_6 := n0_;have BK210 := n1_;have HB := n2_;clear n0_ n1_ n2_;have hcz17_0 : w16.cell? ⟨gb210,0,none⟩ = some (.bool ((rd_T35 l0 x13_1).f0)) := (blk_cell BK210.out 0).trans rfl;have hcz17_1 : w16.cell? ⟨gb210,1,none⟩ = some (.string ((rd_T35 l0 x13_1).f1)) := (blk_cell BK210.out 1).trans rfl;have hcz17_2 : w16.cell? ⟨gb210,2,none⟩ = some (.int .i64 ((rd_T35 l0 x13_1).f2)) := (blk_cell BK210.out 2).trans rfl;have hcz17_3 : w16.cell? ⟨gb210,3,none⟩ = some (.int .i64 ((rd_T35 l0 x13_1).f3)) := (blk_cell BK210.out 3).trans rfl;have hfz17_0 := blk_frozen BK210.out 0;have hfz17_1 := blk_frozen BK210.out 1;have hfz17_2 := blk_frozen BK210.out 2;have hfz17_3 := blk_frozen BK210.out 3;obtain ⟨Ao18,co18,eo18⟩ := Kd.R_slice HO_6.out;subst eo18)|((with_reducible refine gate_callee (f := 38) rfl ?_);refine goesL_ (some 21) rfl rfl Try.func38 q9_ rfl #[.agg #[.bool ((rd_T35 l0 x13_1).f0),.string ((rd_T35 l0 x13_1).f1),.int .i64 ((rd_T35 l0 x13_1).f2),.int .i64 ((rd_T35 l0 x13_1).f3)],.slice Ao18 x6_1.length co18,.int .i64 a1] rfl q0_ ?_;(with_reducible refine (snappy_Part_add.calls k1 ((rd_T35 l0 x13_1).f0) ((rd_T35 l0 x13_1).f1) ((rd_T35 l0 x13_1).f2) ((rd_T35 l0 x13_1).f3) (fun k_=>some k_ = (.slice Ao18 x6_1.length co18 : Value).ownBlock) (.slice Ao18 x6_1.length co18) x6_1 a1 t211 t214 w _ ?side1 ?side2 A6.out).mono ?_);(case side1=>repeat (first|(with_reducible first|exact HB.out|apply below_alloc|apply pw_below_drewN|apply below_drew1|refine below_set ?_ GE210.out)|exact HB.out));(case side2=>exact Kd.R_tight rfl HO_6.out);rintro e w19 ⟨v212,rfl,ho0,hb,hkp⟩;refine ⟨_,rfl,?_⟩;have n0_ := Aside0.mk (blk_kept (by (with_reducible repeat (first|refine blk_drewN ?_ _|refine blk_drew ?_|refine blk_alloc ?_ _));exact BK210.out) hkp (fun hs_=>(fun e_=>(Kd.R_ne HO_6.out BK210.out (by decide)) e_) hs_));have n1_ := Aside0.mk (Kd.R_mono (ok' := fun k_=>True) ho0 (fun k_ hk_=>trivial));have n2_ := Aside0.mk (hb);clear BK210;clear HB;clear HO_6;have BK210 := n0_;have HO213 := n1_;have HB := n2_;clear n0_ n1_ n2_;(try clear hb);(try clear hkp);(try clear ho0)))
       go_ret2
       exact ⟨q1_,q80_⟩
     ·rw [if_neg c5] at H
      exact absurd H (by simp)
    ·rw [if_neg c4] at H
     exact absurd H (by simp)
   ·rw [if_neg c3] at H
    have c3b0 : decide (x13_1 < (l0.length : Int)) = false := decide_eq_false c3
    clear c3
    simp only [Option.some.injEq,Prod.mk.injEq] at H
    obtain ⟨rfl,rfl⟩ := H
    have hcv20 := own_string (P := Try.prog) Try.underlying28 Try.underlying5 Try.underlying9 (Kd.own_of_R HO_6.out)
    go_wp2
    go_ret2
    exact ⟨q1_,bl_⟩

end Go.Proofs.Ythcjcmgdblhhfaa.PV

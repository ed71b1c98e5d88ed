/- The machine side of these statements: what each Go function computes as a plain function, and that its call computes just that. Written by a program of mine (wip/drive.py). No conditions. -/
import Derived.Test.YthcjcmgdblhhfaaPVx0
import Derived.Test.YthcjcmgdblhhfaaPVx12
import Derived.Test.YthcjcmgdblhhfaaPVx13
import Derived.Test.YthcjcmgdblhhfaaPVx14
import Derived.Test.YthcjcmgdblhhfaaPVx15
namespace Go.Proofs.Ythcjcmgdblhhfaa.PV
open Go.RowKit Go.Proofs.YthcjcmgdblhhfaaW.PrintWords Go.Proofs.YthcjcmgdblhhfaaW.PrintLast Go.Proofs.YthcjcmgdblhhfaaW.PrintMore
attribute [local go_sem] max2_int min2_int max_two min_two max_three min_three max_four min_four   -- for this text's walks alone
set_option linter.unusedVariables false
set_option linter.unusedSimpArgs false

/-! ### snappy_Write: function 16 -/
def snappy_Write.l0 : Nat → List Int → List (S35) → Int → Int → Option (ByteArray × Int)
 | 0,_,_,_,_=>none
 | k + 1,x6,x21,x22,x23=>if x23 < x22 then (if 0 ≤ x23 then (if x23 < (x21.length : Int) then ((snappy_Part_write.f k ((rd_T35 x21 x23).f0) ((rd_T35 x21 x23).f1) ((rd_T35 x21 x23).f2) ((rd_T35 x21 x23).f3) x6).bind fun t265=>(snappy_Write.l0 k t265 x21 x22 (wrap64 (x23 + 1)))) else (none)) else (none)) else (some (strOfNums x6,0))
def snappy_Write.f (k : Nat) (l0 : List (S35)) : Option (ByteArray × Int) := (snappy_Expand.f k l0 65536).bind fun bt258 => (if bt258.2 = 0 then ((bits_PutUvarint.f k ([] : List Int) (IntKind.u64.wrap ((bt258.1.size : Int)))).bind fun t260 => (snappy_Write.l0 k t260 l0 (l0.length : Int) 0)) else (some ((⟨#[]⟩ : ByteArray), bt258.2)))
theorem snappy_Write.mono_l : ∀ k, (∀ y0 y1 y2 y3, LeO (snappy_Write.l0 k y0 y1 y2 y3) (snappy_Write.l0 (k + 1) y0 y1 y2 y3))
 | 0=>fun _ _ _ _ r h=>by simp [snappy_Write.l0] at h
 | k + 1=>by
  have ih0 := snappy_Write.mono_l k
  ·intro y0 y1 y2 y3
   unfold snappy_Write.l0
   repeat' first
   | (with_reducible exact ih0 _ _ _ _)
   | (with_reducible exact bits_PutUvarint.mono _ _ _)
   | (with_reducible exact snappy_Expand.mono _ _ _)
   | (with_reducible exact snappy_Part_write.mono _ _ _ _ _ _)
   | (with_reducible exact LeO.refl _)
   | (with_reducible exact LeO.none _)
   | (with_reducible refine LeO.ite ?_ ?_)
   | (with_reducible refine LeO.bind ?_ (fun _=>?_))
   | exact ih0 _ _ _ _
   | exact bits_PutUvarint.mono _ _ _
   | exact snappy_Expand.mono _ _ _
   | exact snappy_Part_write.mono _ _ _ _ _ _
   | exact LeO.none _
   | refine LeO.ite ?_ ?_
   | refine LeO.bind ?_ (fun _=>?_)
theorem snappy_Write.mono : ∀ a0 k, LeO (snappy_Write.f k a0) (snappy_Write.f (k + 1) a0) := by
 intro a0 k
 have ih0 := snappy_Write.mono_l k
 unfold snappy_Write.f
 repeat' first
   | (with_reducible exact ih0 _ _ _ _)
   | (with_reducible exact bits_PutUvarint.mono _ _ _)
   | (with_reducible exact snappy_Expand.mono _ _ _)
   | (with_reducible exact snappy_Part_write.mono _ _ _ _ _ _)
   | (with_reducible exact LeO.refl _)
   | (with_reducible exact LeO.none _)
   | (with_reducible refine LeO.ite ?_ ?_)
   | (with_reducible refine LeO.bind ?_ (fun _=>?_))
   | exact ih0 _ _ _ _
   | exact bits_PutUvarint.mono _ _ _
   | exact snappy_Expand.mono _ _ _
   | exact snappy_Part_write.mono _ _ _ _ _ _
   | exact LeO.none _
   | refine LeO.ite ?_ ?_
   | refine LeO.bind ?_ (fun _=>?_)
set_option maxHeartbeats 8000000 in
set_option maxRecDepth 100000 in
theorem snappy_Write.calls (k : Nat) (A0 : Option Addr) (c0 : Nat) (l0 : List (S35)) (r1 : ByteArray) (r2 : Int) (w : World) (hr0 : Kd.C k35 w A0 l0.length l0) (hc0 : l0.length ≤ c0) (h : snappy_Write.f k l0 = some (r1, r2)) :
  Calls Try.prog 16 #[.slice A0 l0.length c0] w fun e w'=>e = .returned (.tuple #[.string r1,.int .i64 r2]) ∧ Below w.heap.size w w' := by
 have hu35 := Try.underlying35
 have HR0 := Aside0.mk hr0
 have HC0 := Aside0.mk hc0
 clear hr0 hc0
 have HB := Aside0.mk (Below.refl w.heap.size w)
 have H : ((snappy_Expand.f k l0 65536).bind fun bt258=>(if bt258.2 = 0 then ((bits_PutUvarint.f k ([] : List Int) (IntKind.u64.wrap ((bt258.1.size : Int)))).bind fun t260=>(snappy_Write.l0 k t260 l0 (l0.length : Int) 0)) else (some ((⟨#[]⟩ : ByteArray),bt258.2)))) = some (r1,r2) := h
 clear h
 replace H := Option.bind_eq_some_iff.mp H
 obtain ⟨⟨t258,t259⟩,A20,H⟩ := H
 replace H : (if t259 = 0 then ((bits_PutUvarint.f k ([] : List Int) (IntKind.u64.wrap ((t258.size : Int)))).bind fun t260=>(snappy_Write.l0 k t260 l0 (l0.length : Int) 0)) else (some ((⟨#[]⟩ : ByteArray),t259))) = some (r1,r2) := H
 have A2 := Aside0.mk A20
 clear A20
 by_cases c3 : t259 = 0
 ·rw [if_pos c3] at H
  have c3b0 : (t259 == 0) = true := beq_iff_eq.mpr c3
  have c3b1 : (t259 != 0) = false := bne_eq_false_iff_eq.mpr c3
  clear c3
  replace H := Option.bind_eq_some_iff.mp H
  obtain ⟨t260,A40,H⟩ := H
  replace H : (snappy_Write.l0 k t260 l0 (l0.length : Int) 0) = some (r1,r2) := H
  have A4 := Aside0.mk A40
  clear A40
  have H' := Aside0.mk H
  clear H
  go_enter Try.func16,Try.ntmps16
  go_wp2_with (first|((with_reducible refine gate_callee (f := 17) rfl ?_);refine goesL_ (some 11) rfl rfl Try.func17 q9_ rfl #[.slice A0 l0.length c0,.int .i64 65536] rfl q0_ ?_;(with_reducible refine (snappy_Expand.calls k _ _ l0 65536 t258 t259 _ ?side1 ?side2 A2.out).mono ?_);(case side1=>repeat (first|exact HR0.out|(with_reducible refine Kd.C_alloc ?_ _)|(with_reducible refine Kd.C_drewN ?_ _)|(with_reducible refine Kd.C_drew ?_)));(case side2=>exact HC0.out);rintro e w5 ⟨rfl,hb⟩;refine ⟨_,rfl,?_⟩;have n0_ := Aside0.mk (below_step (bl_) hb);clear HB;have HB := n0_;clear n0_;(try clear hb);(try clear hb2);(try clear hk);(try clear hi))|((with_reducible refine gate_callee (f := 41) rfl ?_);refine goesL_ (some 20) rfl rfl Try.func41 q9_ rfl #[.slice none 0 0,.int .u64 (IntKind.u64.wrap ((t258.size : Int)))] rfl q0_ ?_;(refine (bits_PutUvarint.calls k (fun k_=>some k_ = (.slice none 0 0 : Value).ownBlock) (.slice none 0 0) ([] : List Int) (IntKind.u64.wrap ((t258.size : Int))) t260 w _ ?side1 ?side2 A4.out).mono ?_);(case side1=>repeat (first|(with_reducible first|exact HB.out|apply below_alloc|apply pw_below_drewN|apply below_drew1)|exact HB.out));(case side2=>exact Kd.R_nil _ _ _ _ _);rintro e w6 ⟨v261,rfl,ho0,hb,hkp⟩;refine ⟨_,rfl,?_⟩;have n0_ := Aside0.mk (Kd.R_mono (ok' := fun k_=>True) ho0 (fun k_ hk_=>trivial));have n1_ := Aside0.mk (hb);clear HB;have HO262 := n0_;have HB := n1_;clear n0_ n1_;(try clear hb);(try clear hkp);(try clear ho0)))
  go_loopg [6,23] k (fun kq v6 v23 w'=>∃ (x6_1 : List Int) (x23_1 : Int),v23 = .int .i64 x23_1 ∧ Aside0 (snappy_Write.l0 kq x6_1 l0 (l0.length : Int) x23_1 = some (r1,r2)) ∧ Aside0 (kq ≤ k) ∧ Aside0 (Kd.R (Kd.int .u8) 5 w' w.heap.size (fun _=>True) v6 x6_1) ∧ Aside0 (Below w.heap.size w w'))
  case atStart=>exact ⟨(t260),(0),q4_,H',⟨Nat.le_refl _⟩,⟨by (with_reducible repeat (first|apply Kd.R_alloc|apply Kd.R_drewN|apply Kd.R_drew));exact HO262.out⟩,⟨bl_⟩⟩
  case round =>
   clear H'
   try clear c1
   try clear p2
   try clear c3
   try clear c3b0
   try clear c3b1
   try clear c4
   obtain ⟨x6_1,x23_1,rfl,HA,HK1,HO_6,HB⟩ := hrel
   cases gk with
   | zero=>exact absurd HA.out (by simp [snappy_Write.l0])
   | succ k1 =>
    have H := HA.out
    clear HA
    simp only [snappy_Write.l0] at H
    by_cases c7 : x23_1 < (l0.length : Int)
    ·rw [if_pos c7] at H
     have c7b0 : decide (x23_1 < (l0.length : Int)) = true := decide_eq_true c7
     clear c7
     by_cases c8 : 0 ≤ x23_1
     ·rw [if_pos c8] at H
      have c8b0 : decide (0 ≤ x23_1) = true := decide_eq_true c8
      clear c8
      by_cases c9 : x23_1 < (l0.length : Int)
      ·rw [if_pos c9] at H
       have c9b0 : decide (x23_1 < (l0.length : Int)) = true := decide_eq_true c9
       clear c9
       replace H := Option.bind_eq_some_iff.mp H
       obtain ⟨t265,A100,H⟩ := H
       replace H : (snappy_Write.l0 k1 t265 l0 (l0.length : Int) (wrap64 (x23_1 + 1))) = some (r1,r2) := H
       have A10 := Aside0.mk A100
       clear A100
       have H' := Aside0.mk H
       clear H
       have p263 : 0 ≤ (x23_1 : Int) := of_decide_eq_true q3_
       have q263 : x23_1 < (l0.length : Int) := of_decide_eq_true q3_
       obtain ⟨ad263,e263,hx263_0,hx263_1,hx263_2,hx263_3⟩ := at_T35 HR0.out x23_1 p263 q263
       cases e263
       replace hx263_0 := (HB.out.cell (World.block_lt_of_cell? w _ hx263_0)).trans hx263_0
       replace hx263_1 := (HB.out.cell (World.block_lt_of_cell? w _ hx263_1)).trans hx263_1
       replace hx263_2 := (HB.out.cell (World.block_lt_of_cell? w _ hx263_2)).trans hx263_2
       replace hx263_3 := (HB.out.cell (World.block_lt_of_cell? w _ hx263_3)).trans hx263_3
       replace p263 := eq_true p263
       replace q263 := eq_true q263
       go_wp2_with (first|((with_reducible refine gate_dst (N := 8) rfl ?_);refine box_event ?hg (N := 8) ?hd (cs := #[.bool false,.string (⟨#[]⟩ : ByteArray),.int .i64 0,.int .i64 0]) (t := 35) ?hr ?_;(case hd=>rfl);(case hg=>rfl);(case hr=>first|(go_simp;done)|(go_simp;rfl)|(go_simp;simp [my_u8w];done));intro gb264 hg w11 hbox hb;have n0_ := Aside0.mk (Kd.R_below q106_ hb);have n1_ := Aside0.mk (below_step (bl_) hb);have n2_ := Aside0.mk (hbox);have n3_ := Aside0.mk ((by rw [hg];exact (below_size (bl_)) : w.heap.size ≤ gb264));have n4_ := Aside0.mk ((by rw [hg];exact (below_size (bl_)) : w.heap.size ≤ gb264));clear HO_6;clear HB;have HO_6 := n0_;have HB := n1_;have BK264 := n2_;have GW264 := n3_;have GE264 := n4_;clear n0_ n1_ n2_ n3_ n4_;clear hb hbox hg;have hcz12_0 : w11.cell? ⟨gb264,0,none⟩ = some (.bool false) := (blk_cell BK264.out 0).trans rfl;have hcz12_1 : w11.cell? ⟨gb264,1,none⟩ = some (.string (⟨#[]⟩ : ByteArray)) := (blk_cell BK264.out 1).trans rfl;have hcz12_2 : w11.cell? ⟨gb264,2,none⟩ = some (.int .i64 0) := (blk_cell BK264.out 2).trans rfl;have hcz12_3 : w11.cell? ⟨gb264,3,none⟩ = some (.int .i64 0) := (blk_cell BK264.out 3).trans rfl;have hfz12_0 := blk_frozen BK264.out 0;have hfz12_1 := blk_frozen BK264.out 1;have hfz12_2 := blk_frozen BK264.out 2;have hfz12_3 := blk_frozen BK264.out 3)|((with_reducible refine gate_store (t := 35) (p := 8) rfl ?_);refine store_event (t := 35) (p := 8) (v := ?vo_w13) (w1 := ((((w11.setCell ⟨gb264,0,none⟩ (.bool ((rd_T35 l0 x23_1).f0))).setCell ⟨gb264,1,none⟩ (.string ((rd_T35 l0 x23_1).f1))).setCell ⟨gb264,2,none⟩ (.int .i64 ((rd_T35 l0 x23_1).f2))).setCell ⟨gb264,3,none⟩ (.int .i64 ((rd_T35 l0 x23_1).f3)))) ?hg ?ho ?hn ?hr ?_;(case ho=>rfl);(case hg=>rfl);(case hn=>rfl);(case hr=>first|(go_simp;done)|(go_simp;rfl)|(go_simp;simp [my_u8w];done));intro w13 hw;have n0_ : Aside0 (Kd.R (Kd.int .u8) 5 w13 w.heap.size (fun _=>True) u6 x6_1) := ⟨(by rw [hw];exact (by (with_reducible repeat (first|apply Kd.R_alloc|apply Kd.R_drewN|apply Kd.R_drew));exact Kd.R_mono (Kd.R_far (p := ⟨gb264,3,none⟩) (Kd.R_far (p := ⟨gb264,2,none⟩) (Kd.R_far (p := ⟨gb264,1,none⟩) (Kd.R_far (p := ⟨gb264,0,none⟩) (Kd.R_types HO_6.out BK264.out (by decide)) (fun _ hk=>hk.2) (.bool ((rd_T35 l0 x23_1).f0))) (fun _ hk=>hk.2) (.string ((rd_T35 l0 x23_1).f1))) (fun _ hk=>hk.2) (.int .i64 ((rd_T35 l0 x23_1).f2))) (fun _ hk=>hk.2) (.int .i64 ((rd_T35 l0 x23_1).f3))) (fun _ hk=>trivial)))⟩;have n1_ : Aside0 (w13.heap[gb264]? = some (.cells #[.bool ((rd_T35 l0 x23_1).f0),.string ((rd_T35 l0 x23_1).f1),.int .i64 ((rd_T35 l0 x23_1).f2),.int .i64 ((rd_T35 l0 x23_1).f3)] 35 (0,0))) := ⟨(by rw [hw];exact (by (with_reducible repeat (first|refine blk_drewN ?_ _|refine blk_drew ?_|refine blk_alloc ?_ _));refine blk_put (cs := #[.bool ((rd_T35 l0 x23_1).f0),.string ((rd_T35 l0 x23_1).f1),.int .i64 ((rd_T35 l0 x23_1).f2),.int .i64 0]) ?_ 3 _ rfl;(with_reducible repeat (first|refine blk_drewN ?_ _|refine blk_drew ?_|refine blk_alloc ?_ _));refine blk_put (cs := #[.bool ((rd_T35 l0 x23_1).f0),.string ((rd_T35 l0 x23_1).f1),.int .i64 0,.int .i64 0]) ?_ 2 _ rfl;(with_reducible repeat (first|refine blk_drewN ?_ _|refine blk_drew ?_|refine blk_alloc ?_ _));refine blk_put (cs := #[.bool ((rd_T35 l0 x23_1).f0),.string (⟨#[]⟩ : ByteArray),.int .i64 0,.int .i64 0]) ?_ 1 _ rfl;(with_reducible repeat (first|refine blk_drewN ?_ _|refine blk_drew ?_|refine blk_alloc ?_ _));refine blk_put (cs := #[.bool false,.string (⟨#[]⟩ : ByteArray),.int .i64 0,.int .i64 0]) ?_ 0 _ rfl;(with_reducible repeat (first|refine blk_drewN ?_ _|refine blk_drew ?_|refine blk_alloc ?_ _));exact BK264.out))⟩;have n2_ : Aside0 (Below w.heap.size w w13) := ⟨(by rw [hw];exact q110_)⟩;clear hw;clear HO_6;clear BK264;clear HB;have HO_6 := n0_;have BK264 := n1_;have HB := n2_;clear n0_ n1_ n2_;have hcz14_0 : w13.cell? ⟨gb264,0,none⟩ = some (.bool ((rd_T35 l0 x23_1).f0)) := (blk_cell BK264.out 0).trans rfl;have hcz14_1 : w13.cell? ⟨gb264,1,none⟩ = some (.string ((rd_T35 l0 x23_1).f1)) := (blk_cell BK264.out 1).trans rfl;have hcz14_2 : w13.cell? ⟨gb264,2,none⟩ = some (.int .i64 ((rd_T35 l0 x23_1).f2)) := (blk_cell BK264.out 2).trans rfl;have hcz14_3 : w13.cell? ⟨gb264,3,none⟩ = some (.int .i64 ((rd_T35 l0 x23_1).f3)) := (blk_cell BK264.out 3).trans rfl;have hfz14_0 := blk_frozen BK264.out 0;have hfz14_1 := blk_frozen BK264.out 1;have hfz14_2 := blk_frozen BK264.out 2;have hfz14_3 := blk_frozen BK264.out 3;obtain ⟨Ao15,co15,eo15⟩ := Kd.R_slice HO_6.out;subst eo15)|((with_reducible refine gate_callee (f := 42) rfl ?_);refine goesL_ (some 29) rfl rfl Try.func42 q9_ rfl #[.agg #[.bool ((rd_T35 l0 x23_1).f0),.string ((rd_T35 l0 x23_1).f1),.int .i64 ((rd_T35 l0 x23_1).f2),.int .i64 ((rd_T35 l0 x23_1).f3)],.slice Ao15 x6_1.length co15] rfl q0_ ?_;(with_reducible refine (snappy_Part_write.calls k1 ((rd_T35 l0 x23_1).f0) ((rd_T35 l0 x23_1).f1) ((rd_T35 l0 x23_1).f2) ((rd_T35 l0 x23_1).f3) (fun k_=>some k_ = (.slice Ao15 x6_1.length co15 : Value).ownBlock) (.slice Ao15 x6_1.length co15) x6_1 t265 w _ ?side1 ?side2 A10.out).mono ?_);(case side1=>repeat (first|(with_reducible first|exact HB.out|apply below_alloc|apply pw_below_drewN|apply below_drew1|refine below_set ?_ GE264.out)|exact HB.out));(case side2=>exact Kd.R_tight rfl HO_6.out);rintro e w16 ⟨v266,rfl,ho0,hb,hkp⟩;refine ⟨_,rfl,?_⟩;have n0_ := Aside0.mk (blk_kept (by (with_reducible repeat (first|refine blk_drewN ?_ _|refine blk_drew ?_|refine blk_alloc ?_ _));exact BK264.out) hkp (fun hs_=>(fun e_=>(Kd.R_ne HO_6.out BK264.out (by decide)) e_) hs_));have n1_ := Aside0.mk (Kd.R_mono (ok' := fun k_=>True) ho0 (fun k_ hk_=>trivial));have n2_ := Aside0.mk (hb);clear BK264;clear HB;clear HO_6;have BK264 := n0_;have HO267 := n1_;have HB := n2_;clear n0_ n1_ n2_;(try clear hb);(try clear hkp);(try clear ho0)))
       go_roundg k1
       case measure=>have := HK1.out;omega
       case rel=>exact ⟨(t265),(wrap64 (x23_1 + 1)),q4_,H',⟨q85_⟩,⟨by (with_reducible repeat (first|apply Kd.R_alloc|apply Kd.R_drewN|apply Kd.R_drew));exact HO267.out⟩,⟨q110_⟩⟩
      ·rw [if_neg c9] at H
       exact absurd H (by simp)
     ·rw [if_neg c8] at H
      exact absurd H (by simp)
    ·rw [if_neg c7] at H
     have c7b0 : decide (x23_1 < (l0.length : Int)) = false := decide_eq_false c7
     clear c7
     simp only [Option.some.injEq,Prod.mk.injEq] at H
     obtain ⟨rfl,rfl⟩ := H
     have hcv17 := own_string (P := Try.prog) Try.underlying28 Try.underlying5 Try.underlying9 (Kd.own_of_R HO_6.out)
     go_wp2
     go_ret2
     exact ⟨q1_,bl_⟩
 ·rw [if_neg c3] at H
  have c3b0 : (t259 == 0) = false := beq_eq_false_iff_ne.mpr c3
  have c3b1 : (t259 != 0) = true := bne_iff_ne.mpr c3
  simp only [Option.some.injEq,Prod.mk.injEq] at H
  obtain ⟨rfl,rfl⟩ := H
  go_enter Try.func16,Try.ntmps16
  go_wp2_with (first|((with_reducible refine gate_callee (f := 17) rfl ?_);refine goesL_ (some 11) rfl rfl Try.func17 q9_ rfl #[.slice A0 l0.length c0,.int .i64 65536] rfl q0_ ?_;(with_reducible refine (snappy_Expand.calls k _ _ l0 65536 t258 t259 _ ?side1 ?side2 A2.out).mono ?_);(case side1=>repeat (first|exact HR0.out|(with_reducible refine Kd.C_alloc ?_ _)|(with_reducible refine Kd.C_drewN ?_ _)|(with_reducible refine Kd.C_drew ?_)));(case side2=>exact HC0.out);rintro e w18 ⟨rfl,hb⟩;refine ⟨_,rfl,?_⟩;have n0_ := Aside0.mk (below_step (bl_) hb);clear HB;have HB := n0_;clear n0_;(try clear hb);(try clear hb2);(try clear hk);(try clear hi)))
  go_ret2
  exact ⟨q1_,bl_⟩

/-! ### snappy_Encode: function 14 -/
def snappy_Encode.f (k : Nat) (a0 : ByteArray) : Option (ByteArray × Int) := (snappy_Pack.f k a0).bind fun bt268 => (if bt268.2 = 0 then ((snappy_Write.f k bt268.1).bind fun bt272 => (some (bt272.1, bt272.2))) else (some ((⟨#[]⟩ : ByteArray), bt268.2)))
theorem snappy_Encode.mono : ∀ a0 k, LeO (snappy_Encode.f k a0) (snappy_Encode.f (k + 1) a0) := by
 intro a0 k
 unfold snappy_Encode.f
 repeat' first
   | (with_reducible exact snappy_Pack.mono _ _)
   | (with_reducible exact snappy_Write.mono _ _)
   | (with_reducible exact LeO.refl _)
   | (with_reducible exact LeO.none _)
   | (with_reducible refine LeO.ite ?_ ?_)
   | (with_reducible refine LeO.bind ?_ (fun _=>?_))
   | exact snappy_Pack.mono _ _
   | exact snappy_Write.mono _ _
   | exact LeO.none _
   | refine LeO.ite ?_ ?_
   | refine LeO.bind ?_ (fun _=>?_)
set_option maxHeartbeats 8000000 in
set_option maxRecDepth 100000 in
theorem snappy_Encode.calls (k : Nat) (a0 : ByteArray) (r1 : ByteArray) (r2 : Int) (w : World) (h : snappy_Encode.f k a0 = some (r1, r2)) :
  Calls Try.prog 14 #[.string a0] w fun e w'=>e = .returned (.tuple #[.string r1,.int .i64 r2]) ∧ Below w.heap.size w w' := by
 have HB := Aside0.mk (Below.refl w.heap.size w)
 have H : ((snappy_Pack.f k a0).bind fun bt268=>(if bt268.2 = 0 then ((snappy_Write.f k bt268.1).bind fun bt272=>(some (bt272.1,bt272.2))) else (some ((⟨#[]⟩ : ByteArray),bt268.2)))) = some (r1,r2) := h
 clear h
 replace H := Option.bind_eq_some_iff.mp H
 obtain ⟨⟨t268,t269⟩,A20,H⟩ := H
 replace H : (if t269 = 0 then ((snappy_Write.f k t268).bind fun bt272=>(some (bt272.1,bt272.2))) else (some ((⟨#[]⟩ : ByteArray),t269))) = some (r1,r2) := H
 have A2 := Aside0.mk A20
 clear A20
 by_cases c3 : t269 = 0
 ·rw [if_pos c3] at H
  have c3b0 : (t269 == 0) = true := beq_iff_eq.mpr c3
  have c3b1 : (t269 != 0) = false := bne_eq_false_iff_eq.mpr c3
  clear c3
  replace H := Option.bind_eq_some_iff.mp H
  obtain ⟨⟨t272,t273⟩,A40,H⟩ := H
  replace H : (some (t272,t273)) = some (r1,r2) := H
  have A4 := Aside0.mk A40
  clear A40
  simp only [Option.some.injEq,Prod.mk.injEq] at H
  obtain ⟨rfl,rfl⟩ := H
  go_enter Try.func14,Try.ntmps14
  go_wp2_with (first|((with_reducible refine gate_callee (f := 15) rfl ?_);refine goesL_ (some 8) rfl rfl Try.func15 q9_ rfl #[.string a0] rfl q0_ ?_;(with_reducible refine (snappy_Pack.calls k a0 t268 t269 _ A2.out).mono ?_);rintro e w5 ⟨v270,rfl,ho0,hb⟩;refine ⟨_,rfl,?_⟩;have n0_ := Aside0.mk (Kd.R_lower ho0 (below_size (bl_)));have n1_ := Aside0.mk (below_step (bl_) hb);clear HB;have HO271 := n0_;have HB := n1_;clear n0_ n1_;(try clear hb);(try clear hb2);(try clear hk);(try clear hi);(try clear ho0);obtain ⟨Ao6,co6,eo6⟩ := Kd.R_slice HO271.out;subst eo6)|((with_reducible refine gate_callee (f := 16) rfl ?_);refine goesL_ (some 15) rfl rfl Try.func16 q9_ rfl #[.slice Ao6 t268.length co6] rfl q0_ ?_;(with_reducible refine (snappy_Write.calls k _ _ t268 t272 t273 _ ?side1 ?side2 A4.out).mono ?_);(case side1=>repeat (first|exact (Kd.R_reads' HO271.out).2.2|(with_reducible refine Kd.C_alloc ?_ _)|(with_reducible refine Kd.C_drewN ?_ _)|(with_reducible refine Kd.C_drew ?_)));(case side2=>exact (Kd.R_reads' HO271.out).2.1);rintro e w7 ⟨rfl,hb⟩;refine ⟨_,rfl,?_⟩;have n0_ := Aside0.mk (Kd.R_below (by (with_reducible repeat (first|apply Kd.R_alloc|apply Kd.R_drewN|apply Kd.R_drew));exact HO271.out) hb);have n1_ := Aside0.mk (below_step (bl_) hb);clear HO271;clear HB;have HO271 := n0_;have HB := n1_;clear n0_ n1_;(try clear hb);(try clear hb2);(try clear hk);(try clear hi)))
  go_ret2
  exact ⟨q1_,bl_⟩
 ·rw [if_neg c3] at H
  have c3b0 : (t269 == 0) = false := beq_eq_false_iff_ne.mpr c3
  have c3b1 : (t269 != 0) = true := bne_iff_ne.mpr c3
  simp only [Option.some.injEq,Prod.mk.injEq] at H
  obtain ⟨rfl,rfl⟩ := H
  go_enter Try.func14,Try.ntmps14
  go_wp2_with (first|((with_reducible refine gate_callee (f := 15) rfl ?_);refine goesL_ (some 8) rfl rfl Try.func15 q9_ rfl #[.string a0] rfl q0_ ?_;(with_reducible refine (snappy_Pack.calls k a0 t268 t269 _ A2.out).mono ?_);rintro e w8 ⟨v270,rfl,ho0,hb⟩;refine ⟨_,rfl,?_⟩;have n0_ := Aside0.mk (Kd.R_lower ho0 (below_size (bl_)));have n1_ := Aside0.mk (below_step (bl_) hb);clear HB;have HO271 := n0_;have HB := n1_;clear n0_ n1_;(try clear hb);(try clear hb2);(try clear hk);(try clear hi);(try clear ho0)))
  go_ret2
  exact ⟨q1_,bl_⟩

end Go.Proofs.Ythcjcmgdblhhfaa.PV

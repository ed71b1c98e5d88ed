/- The machine side of these statements: what each Go function computes as a plain function, and that its call computes just that. Written by a program of mine (wip/drive.py). No conditions. -/
import Derived.Test.YthcjcmgdblhhfaaPUx0
import Derived.Test.YthcjcmgdblhhfaaPUx3
import Derived.Test.YthcjcmgdblhhfaaPUx4
import Derived.Test.YthcjcmgdblhhfaaPUx5
import Derived.Test.YthcjcmgdblhhfaaPUx6
import Derived.Test.YthcjcmgdblhhfaaPUx7
namespace Go.Proofs.Ythcjcmgdblhhfaa.PU
open Go.RowKit Go.Proofs.YthcjcmgdblhhfaaW.PrintWords Go.Proofs.YthcjcmgdblhhfaaW.PrintLast Go.Proofs.YthcjcmgdblhhfaaW.PrintMore
attribute [local go_sem] max2_int min2_int max_two min_two max_three min_three max_four min_four   -- for this text's walks alone
set_option linter.unusedVariables false
set_option linter.unusedSimpArgs false

/-! ### snappy_Write: function 16 -/
def snappy_Write.l0 : Nat → List Int → List (S35) → Int → Int → Option (ByteArray × Int)
 | 0,_,_,_,_=>none
 | k + 1,x6,x21,x22,x23=>if x23 < x22 then (if 0 ≤ x23 then (if x23 < (x21.length : Int) then ((snappy_Part_write.f k ((rd_T35 x21 x23).f0) ((rd_T35 x21 x23).f1) ((rd_T35 x21 x23).f2) ((rd_T35 x21 x23).f3) x6).bind fun t265=>(snappy_Write.l0 k t265 x21 x22 (wrap64 (x23 + 1)))) else (none)) else (none)) else (some (strOfNums x6,0))
def snappy_Write.f (k : Nat) (l0 : List (S35)) : Option (ByteArray × Int) := (snappy_Expand.f k l0 65536).bind fun bt258 => (if bt258.2 = 0 then ((bits_PutUvarint.f k ([] : List Int) (IntKind.u64.wrap ((bt258.1.size : Int)))).bind fun t260 => (snappy_Write.l0 k t260 l0 (l0.length : Int) 0)) else (some ((⟨#[]⟩ : ByteArray), bt258.2)))
theorem snappy_Write.mono_l : ∀ k, (∀ y0 y1 y2 y3, LeO (snappy_Write.l0 k y0 y1 y2 y3) (snappy_Write.l0 (k + 1) y0 y1 y2 y3))
 | 0=>fun _ _ _ _ r h=>by simp [snappy_Write.l0] at h
 | k + 1=>by
  have ih0 := snappy_Write.mono_l k
  ·intro y0 y1 y2 y3
   unfold snappy_Write.l0
   repeat' first
   | (with_reducible exact ih0 _ _ _ _)
   | (with_reducible exact bits_PutUvarint.mono _ _ _)
   | (with_reducible exact snappy_Expand.mono _ _ _)
   | (with_reducible exact snappy_Part_write.mono _ _ _ _ _ _)
   | (with_reducible exact LeO.refl _)
   | (with_reducible exact LeO.none _)
   | (with_reducible refine LeO.ite ?_ ?_)
   | (with_reducible refine LeO.bind ?_ (fun _=>?_))
   | exact ih0 _ _ _ _
   | exact bits_PutUvarint.mono _ _ _
   | exact snappy_Expand.mono _ _ _
   | exact snappy_Part_write.mono _ _ _ _ _ _
   | exact LeO.none _
   | refine LeO.ite ?_ ?_
   | refine LeO.bind ?_ (fun _=>?_)
theorem snappy_Write.mono : ∀ a0 k, LeO (snappy_Write.f k a0) (snappy_Write.f (k + 1) a0) := by
 intro a0 k
 have ih0 := snappy_Write.mono_l k
 unfold snappy_Write.f
 repeat' first
   | (with_reducible exact ih0 _ _ _ _)
   | (with_reducible exact bits_PutUvarint.mono _ _ _)
   | (with_reducible exact snappy_Expand.mono _ _ _)
   | (with_reducible exact snappy_Part_write.mono _ _ _ _ _ _)
   | (with_reducible exact LeO.refl _)
   | (with_reducible exact LeO.none _)
   | (with_reducible refine LeO.ite ?_ ?_)
   | (with_reducible refine LeO.bind ?_ (fun _=>?_))
   | exact ih0 _ _ _ _
   | exact bits_PutUvarint.mono _ _ _
   | exact snappy_Expand.mono _ _ _
   | exact snappy_Part_write.mono _ _ _ _ _ _
   | exact LeO.none _
   | refine LeO.ite ?_ ?_
   | refine LeO.bind ?_ (fun _=>?_)
set_option maxHeartbeats 8000000 in
set_option maxRecDepth 100000 in
theorem snappy_Write.calls (k : Nat) (A0 : Option Addr) (c0 : Nat) (l0 : List (S35)) (r1 : ByteArray) (r2 : Int) (w : World) (hr0 : Kd.C k35 w A0 l0.length l0) (hc0 : l0.length ≤ c0) (h : snappy_Write.f k l0 = some (r1, r2)) :
  Calls Try.prog 16 #[.slice A0 l0.length c0] w fun e w'=>e = .returned (.tuple #[.string r1,.int .i64 r2]) ∧ Below w.heap.size w w' := by
 have hu35 := Try.underlying35
 have HR0 := Aside0.mk hr0
 have HC0 := Aside0.mk hc0
 clear hr0 hc0
 have HB := Aside0.mk (Below.refl w.heap.size w)
 have H : ((snappy_Expand.f k l0 65536).bind fun bt258=>(if bt258.2 = 0 then ((bits_PutUvarint.f k ([] : List Int) (IntKind.u64.wrap ((bt258.1.size : Int)))).bind fun t260=>(snappy_Write.l0 k t260 l0 (l0.length : Int) 0)) else (some ((⟨#[]⟩ : ByteArray),bt258.2)))) = some (r1,r2) := h
 clear h
 replace H := Option.bind_eq_some_iff.mp H
 obtain ⟨⟨t258,t259⟩,A20,H⟩ := H
 replace H : (if t259 = 0 then ((bits_PutUvarint.f k ([] : List Int) (IntKind.u64.wrap ((t258.size : Int)))).bind fun t260=>(snappy_Write.l0 k t260 l0 (l0.length : Int) 0)) else (some ((⟨#[]⟩ : ByteArray),t259))) = some (r1,r2) := H
 have A2 := Aside0.mk A20
 clear A20
 by_cases c3 : t259 = 0
 ·rw [if_pos c3] at H
  have c3b0 : (t259 == 0) = true := beq_iff_eq.mpr c3
  have c3b1 : (t259 != 0) = false := bne_eq_false_iff_eq.mpr c3
  clear c3
  replace H := Option.bind_eq_some_iff.mp H
  obtain ⟨t260,A40,H⟩ := H
  replace H : (snappy_Write.l0 k t260 l0 (l0.length : Int) 0) = some (r1,r2) := H
  have A4 := Aside0.mk A40
  clear A40
  have H' := Aside0.mk H
  clear H
  go_enter Try.func16,Try.ntmps16
  go_wp2_with (first|((with_reducible refine gate_callee (f := 17) rfl ?_);refine goesL_ (some 11) rfl rfl Try.func17 (by kernel_rfl) rfl #[.slice A0 l0.length c0,.int .i64 65536] rfl (by (try simp only [List.map_toArray,List.map_cons,List.map_nil]);first|done|rfl|(simp only [List.length_drop,List.length_take];rfl)) ?_;(with_reducible refine (snappy_Expand.calls k _ _ l0 65536 t258 t259 _ ?side1 ?side2 A2.out).mono ?_);(case side1=>repeat (first|exact HR0.out|(with_reducible refine Kd.C_alloc ?_ _)|(with_reducible refine Kd.C_drewN ?_ _)|(with_reducible refine Kd.C_drew ?_)));(case side2=>exact HC0.out);rintro e w5 ⟨rfl,hb⟩;refine ⟨_,rfl,?_⟩;have n0_ := Aside0.mk (below_step (bl_) hb);clear HB;have HB := n0_;clear n0_;(try clear hb);(try clear hb2);(try clear hk);(try clear hi))|((with_reducible refine gate_callee (f := 41) rfl ?_);refine goesL_ (some 20) rfl rfl Try.func41 (by kernel_rfl) rfl #[.slice none 0 0,.int .u64 (IntKind.u64.wrap ((t258.size : Int)))] rfl (by (try simp only [List.map_toArray,List.map_cons,List.map_nil]);first|done|rfl|(simp only [List.length_drop,List.length_take];rfl)) ?_;(refine (bits_PutUvarint.calls k (fun k_=>some k_ = (.slice none 0 0 : Value).ownBlock) (.slice none 0 0) ([] : List Int) (IntKind.u64.wrap ((t258.size : Int))) t260 w _ ?side1 ?side2 A4.out).mono ?_);(case side1=>repeat (first|(with_reducible first|exact HB.out|apply below_alloc|apply pw_below_drewN|apply below_drew1)|exact HB.out));(case side2=>exact Kd.R_nil _ _ _ _ _);rintro e w6 ⟨v261,rfl,ho0,hb,hkp⟩;refine ⟨_,rfl,?_⟩;have n0_ := Aside0.mk (Kd.R_mono (ok' := fun k_=>True) ho0 (fun k_ hk_=>trivial));have n1_ := Aside0.mk (hb);clear HB;have HO262 := n0_;have HB := n1_;clear n0_ n1_;(try clear hb);(try clear hkp);(try clear ho0)))
  go_loopg [6,23] k (fun kq v6 v23 w'=>∃ (x6_1 : List Int) (x23_1 : Int),v23 = .int .i64 x23_1 ∧ Aside0 (snappy_Write.l0 kq x6_1 l0 (l0.length : Int) x23_1 = some (r1,r2)) ∧ Aside0 (kq ≤ k) ∧ Aside0 (Kd.R (Kd.int .u8) 5 w' w.heap.size (fun _=>True) v6 x6_1) ∧ Aside0 (Below w.heap.size w w'))
  case atStart=>exact ⟨(t260),(0),(by first|rfl|(simp;done)|(simp [*];done)),H',⟨Nat.le_refl _⟩,⟨by (with_reducible repeat (first|apply Kd.R_alloc|apply Kd.R_drewN|apply Kd.R_drew));exact HO262.out⟩,⟨bl_⟩⟩
  case round =>
   clear H'
   try clear c1
   try clear p2
   try clear c3
   try clear c3b0
   try clear c3b1
   try clear c4
   obtain ⟨x6_1,x23_1,rfl,HA,HK1,HO_6,HB⟩ := hrel
   cases gk with
   | zero=>exact absurd HA.out (by simp [snappy_Write.l0])
   | succ k1 =>
    have H := HA.out
    clear HA
    simp only [snappy_Write.l0] at H
    by_cases c7 : x23_1 < (l0.length : Int)
    ·rw [if_pos c7] at H
     have c7b0 : decide (x23_1 < (l0.length : Int)) = true := decide_eq_true c7
     clear c7
     by_cases c8 : 0 ≤ x23_1
     ·rw [if_pos c8] at H
      have c8b0 : decide (0 ≤ x23_1) = true := decide_eq_true c8
      clear c8
      by_cases c9 : x23_1 < (l0.length : Int)
      ·rw [if_pos c9] at H
       have c9b0 : decide (x23_1 < (l0.length : Int)) = true := decide_eq_true c9
       clear c9
       replace H := Option.bind_eq_some_iff.mp H
       obtain ⟨t265,A100,H⟩ := H
       replace H : (snappy_Write.l0 k1 t265 l0 (l0.length : Int) (wrap64 (x23_1 + 1))) = some (r1,r2) := H
       have A10 := Aside0.mk A100
       clear A100
       have H' := Aside0.mk H
       clear H
       have p263 : 0 ≤ (x23_1 : Int) := of_decide_eq_true (by first|(with_reducible assumption)|assumption)
       have q263 : x23_1 < (l0.length : Int) := of_decide_eq_true (by first|(with_reducible assumption)|assumption)
       obtain ⟨ad263,e263,hx263_0,hx263_1,hx263_2,hx263_3⟩ := at_T35 HR0.out x23_1 p263 q263
       cases e263
       replace hx263_0 := (HB.out.cell (World.block_lt_of_cell? w _ hx263_0)).trans hx263_0
       replace hx263_1 := (HB.out.cell (World.block_lt_of_cell? w _ hx263_1)).trans hx263_1
       replace hx263_2 := (HB.out.cell (World.block_lt_of_cell? w _ hx263_2)).trans hx263_2
       replace hx263_3 := (HB.out.cell (World.block_lt_of_cell? w _ hx263_3)).trans hx263_3
       replace p263 := eq_true p263
       replace q263 := eq_true q263
       go_wp2_with (first|((with_reducible refine gate_dst (N := 8) rfl ?_);refine box_event ?hg (N := 8) ?hd (cs := #[.bool false,.string (⟨#[]⟩ : ByteArray),.int .i64 0,.int .i64 0]) (t := 35) ?hr ?_;(case hd=>rfl);(case hg=>rfl);(case hr=>first|(go_simp;done)|(go_simp;rfl)|(go_simp;simp [my_u8w];done));intro gb264 hg w11 hbox hb;have n0_ := Aside0.mk (Kd.R_below (by (with_reducible repeat (first|apply Kd.R_alloc|apply Kd.R_drewN|apply Kd.R_drew));exact HO_6.out) hb);have n1_ := Aside0.mk (below_step (bl_) hb);have n2_ := Aside0.mk (hbox);have n3_ := Aside0.mk ((by rw [hg];exact (below_size (bl_)) : w.heap.size ≤ gb264));have n4_ := Aside0.mk ((by rw [hg];exact (below_size (bl_)) : w.heap.size ≤ gb264));clear HO_6;clear HB;have HO_6 := n0_;have HB := n1_;have BK264 := n2_;have GW264 := n3_;have GE264 := n4_;clear n0_ n1_ n2_ n3_ n4_;clear hb hbox hg;have hcz12_0 : w11.cell? ⟨gb264,0,none⟩ = some (.bool false) := (blk_cell BK264.out 0).trans rfl;have hcz12_1 : w11.cell? ⟨gb264,1,none⟩ = some (.string (⟨#[]⟩ : ByteArray)) := (blk_cell BK264.out 1).trans rfl;have hcz12_2 : w11.cell? ⟨gb264,2,none⟩ = some (.int .i64 0) := (blk_cell BK264.out 2).trans rfl;have hcz12_3 : w11.cell? ⟨gb264,3,none⟩ = some (.int .i64 0) := (blk_cell BK264.out 3).trans rfl;have hfz12_0 := blk_frozen BK264.out 0;have hfz12_1 := blk_frozen BK264.out 1;have hfz12_2 := blk_frozen BK264.out 2;have hfz12_3 := blk_frozen BK264.out 3)|((with_reducible refine gate_store (t := 35) (p := 8) rfl ?_);refine store_event (t := 35) (p := 8) (v := ?vo_w13) (w1 := ((((w11.setCell ⟨gb264,0,none⟩ (.bool ((rd_T35 l0 x23_1).f0))).setCell ⟨gb264,1,none⟩ (.string ((rd_T35 l0 x23_1).f1))).setCell ⟨gb264,2,none⟩ (.int .i64 ((rd_T35 l0 x23_1).f2))).setCell ⟨gb264,3,none⟩ (.int .i64 ((rd_T35 l0 x23_1).f3)))) ?hg ?ho ?hn ?hr ?_;(case ho=>rfl);(case hg=>rfl);(case hn=>rfl);(case hr=>first|(go_simp;done)|(go_simp;rfl)|(go_simp;simp [my_u8w];done));intro w13 hw;have n0_ : Aside0 (Kd.R (Kd.int .u8) 5 w13 w.heap.size (fun _=>True) u6 x6_1) := ⟨(by rw [hw];exact (by (with_reducible repeat (first|apply Kd.R_alloc|apply Kd.R_drewN|apply Kd.R_drew));exact Kd.R_mono (Kd.R_far (p := ⟨gb264,3,none⟩) (Kd.R_far (p := ⟨gb264,2,none⟩) (Kd.R_far (p := ⟨gb264,1,none⟩) (Kd.R_far (p := ⟨gb264,0,none⟩) (Kd.R_types HO_6.out BK264.out (by decide)) (fun _ hk=>hk.2) (.bool ((rd_T35 l0 x23_1).f0))) (fun _ hk=>hk.2) (.string ((rd_T35 l0 x23_1).f1))) (fun _ hk=>hk.2) (.int .i64 ((rd_T35 l0 x23_1).f2))) (fun _ hk=>hk.2) (.int .i64 ((rd_T35 l0 x23_1).f3))) (fun _ hk=>trivial)))⟩;have n1_ : Aside0 (w13.heap[gb264]? = some (.cells #[.bool ((rd_T35 l0 x23_1).f0),.string ((rd_T35 l0 x23_1).f1),.int .i64 ((rd_T35 l0 x23_1).f2),.int .i64 ((rd_T35 l0 x23_1).f3)] 35 (0,0))) := ⟨(by rw [hw];exact (by (with_reducible repeat (first|refine blk_drewN ?_ _|refine blk_drew ?_|refine blk_alloc ?_ _));refine blk_put (cs := #[.bool ((rd_T35 l0 x23_1).f0),.string ((rd_T35 l0 x23_1).f1),.int .i64 ((rd_T35 l0 x23_1).f2),.int .i64 0]) ?_ 3 _ rfl;(with_reducible repeat (first|refine blk_drewN ?_ _|refine blk_drew ?_|refine blk_alloc ?_ _));refine blk_put (cs := #[.bool ((rd_T35 l0 x23_1).f0),.string ((rd_T35 l0 x23_1).f1),.int .i64 0,.int .i64 0]) ?_ 2 _ rfl;(with_reducible repeat (first|refine blk_drewN ?_ _|refine blk_drew ?_|refine blk_alloc ?_ _));refine blk_put (cs := #[.bool ((rd_T35 l0 x23_1).f0),.string (⟨#[]⟩ : ByteArray),.int .i64 0,.int .i64 0]) ?_ 1 _ rfl;(with_reducible repeat (first|refine blk_drewN ?_ _|refine blk_drew ?_|refine blk_alloc ?_ _));refine blk_put (cs := #[.bool false,.string (⟨#[]⟩ : ByteArray),.int .i64 0,.int .i64 0]) ?_ 0 _ rfl;(with_reducible repeat (first|refine blk_drewN ?_ _|refine blk_drew ?_|refine blk_alloc ?_ _));exact BK264.out))⟩;have n2_ : Aside0 (Below w.heap.size w w13) := ⟨(by rw [hw];exact (by repeat (first|(with_reducible first|exact HB.out|apply below_alloc|apply pw_below_drewN|apply below_drew1|refine below_set ?_ GE264.out)|exact HB.out)))⟩;clear hw;clear HO_6;clear BK264;clear HB;have HO_6 := n0_;have BK264 := n1_;have HB := n2_;clear n0_ n1_ n2_;have hcz14_0 : w13.cell? ⟨gb264,0,none⟩ = some (.bool ((rd_T35 l0 x23_1).f0)) := (blk_cell BK264.out 0).trans rfl;have hcz14_1 : w13.cell? ⟨gb264,1,none⟩ = some (.string ((rd_T35 l0 x23_1).f1)) := (blk_cell BK264.out 1).trans rfl;have hcz14_2 : w13.cell? ⟨gb264,2,none⟩ = some (.int .i64 ((rd_T35 l0 x23_1).f2)) := (blk_cell BK264.out 2).trans rfl;have hcz14_3 : w13.cell? ⟨gb264,3,none⟩ = some (.int .i64 ((rd_T35 l0 x23_1).f3)) := (blk_cell BK264.out 3).trans rfl;have hfz14_0 := blk_frozen BK264.out 0;have hfz14_1 := blk_frozen BK264.out 1;have hfz14_2 := blk_frozen BK264.out 2;have hfz14_3 := blk_frozen BK264.out 3;obtain ⟨Ao15,co15,eo15⟩ := Kd.R_slice HO_6.out;subst eo15)|((with_reducible refine gate_callee (f := 42) rfl ?_);refine goesL_ (some 29) rfl rfl Try.func42 (by kernel_rfl) rfl #[.agg #[.bool ((rd_T35 l0 x23_1).f0),.string ((rd_T35 l0 x23_1).f1),.int .i64 ((rd_T35 l0 x23_1).f2),.int .i64 ((rd_T35 l0 x23_1).f3)],.slice Ao15 x6_1.length co15] rfl (by (try simp only [List.map_toArray,List.map_cons,List.map_nil]);first|done|rfl|(simp only [List.length_drop,List.length_take];rfl)) ?_;(with_reducible refine (snappy_Part_write.calls k1 ((rd_T35 l0 x23_1).f0) ((rd_T35 l0 x23_1).f1) ((rd_T35 l0 x23_1).f2) ((rd_T35 l0 x23_1).f3) (fun k_=>some k_ = (.slice Ao15 x6_1.length co15 : Value).ownBlock) (.slice Ao15 x6_1.length co15) x6_1 t265 w _ ?side1 ?side2 A10.out).mono ?_);(case side1=>repeat (first|(with_reducible first|exact HB.out|apply below_alloc|apply pw_below_drewN|apply below_drew1|refine below_set ?_ GE264.out)|exact HB.out));(case side2=>exact Kd.R_tight rfl HO_6.out);rintro e w16 ⟨v266,rfl,ho0,hb,hkp⟩;refine ⟨_,rfl,?_⟩;have n0_ := Aside0.mk (blk_kept (by (with_reducible repeat (first|refine blk_drewN ?_ _|refine blk_drew ?_|refine blk_alloc ?_ _));exact BK264.out) hkp (fun hs_=>(fun e_=>(Kd.R_ne HO_6.out BK264.out (by decide)) e_) hs_));have n1_ := Aside0.mk (Kd.R_mono (ok' := fun k_=>True) ho0 (fun k_ hk_=>trivial));have n2_ := Aside0.mk (hb);clear BK264;clear HB;clear HO_6;have BK264 := n0_;have HO267 := n1_;have HB := n2_;clear n0_ n1_ n2_;(try clear hb);(try clear hkp);(try clear ho0)))
       go_roundg k1
       case measure=>have := HK1.out;omega
       case rel=>exact ⟨(t265),(wrap64 (x23_1 + 1)),(by first|rfl|(simp;done)|(simp [*];done)),H',⟨by have := HK1.out;omega⟩,⟨by (with_reducible repeat (first|apply Kd.R_alloc|apply Kd.R_drewN|apply Kd.R_drew));exact HO267.out⟩,⟨by repeat (first|(with_reducible first|exact HB.out|apply below_alloc|apply pw_below_drewN|apply below_drew1|refine below_set ?_ GE264.out)|exact HB.out)⟩⟩
      ·rw [if_neg c9] at H
       exact absurd H (by simp)
     ·rw [if_neg c8] at H
      exact absurd H (by simp)
    ·rw [if_neg c7] at H
     have c7b0 : decide (x23_1 < (l0.length : Int)) = false := decide_eq_false c7
     clear c7
     simp only [Option.some.injEq,Prod.mk.injEq] at H
     obtain ⟨rfl,rfl⟩ := H
     have hcv17 := own_string (P := Try.prog) Try.underlying28 Try.underlying5 Try.underlying9 (Kd.own_of_R HO_6.out)
     go_wp2
     go_ret2
     exact ⟨by first|rfl|(simp [errW_none,errW_some] <;> rfl)|(simp [*,errW_none,errW_some] <;> rfl),bl_⟩
 ·rw [if_neg c3] at H
  have c3b0 : (t259 == 0) = false := beq_eq_false_iff_ne.mpr c3
  have c3b1 : (t259 != 0) = true := bne_iff_ne.mpr c3
  simp only [Option.some.injEq,Prod.mk.injEq] at H
  obtain ⟨rfl,rfl⟩ := H
  go_enter Try.func16,Try.ntmps16
  go_wp2_with (first|((with_reducible refine gate_callee (f := 17) rfl ?_);refine goesL_ (some 11) rfl rfl Try.func17 (by kernel_rfl) rfl #[.slice A0 l0.length c0,.int .i64 65536] rfl (by (try simp only [List.map_toArray,List.map_cons,List.map_nil]);first|done|rfl|(simp only [List.length_drop,List.length_take];rfl)) ?_;(with_reducible refine (snappy_Expand.calls k _ _ l0 65536 t258 t259 _ ?side1 ?side2 A2.out).mono ?_);(case side1=>repeat (first|exact HR0.out|(with_reducible refine Kd.C_alloc ?_ _)|(with_reducible refine Kd.C_drewN ?_ _)|(with_reducible refine Kd.C_drew ?_)));(case side2=>exact HC0.out);rintro e w18 ⟨rfl,hb⟩;refine ⟨_,rfl,?_⟩;have n0_ := Aside0.mk (below_step (bl_) hb);clear HB;have HB := n0_;clear n0_;(try clear hb);(try clear hb2);(try clear hk);(try clear hi)))
  go_ret2
  exact ⟨by first|rfl|(simp [errW_none,errW_some] <;> rfl)|(simp [*,errW_none,errW_some] <;> rfl),bl_⟩

/-! ### snappy_Encode: function 14 -/
def snappy_Encode.f (k : Nat) (a0 : ByteArray) : Option (ByteArray × Int) := (snappy_Pack.f k a0).bind fun bt268 => (if bt268.2 = 0 then ((snappy_Write.f k bt268.1).bind fun bt272 => (some (bt272.1, bt272.2))) else (some ((⟨#[]⟩ : ByteArray), bt268.2)))
theorem snappy_Encode.mono : ∀ a0 k, LeO (snappy_Encode.f k a0) (snappy_Encode.f (k + 1) a0) := by
 intro a0 k
 unfold snappy_Encode.f
 repeat' first
   | (with_reducible exact snappy_Pack.mono _ _)
   | (with_reducible exact snappy_Write.mono _ _)
   | (with_reducible exact LeO.refl _)
   | (with_reducible exact LeO.none _)
   | (with_reducible refine LeO.ite ?_ ?_)
   | (with_reducible refine LeO.bind ?_ (fun _=>?_))
   | exact snappy_Pack.mono _ _
   | exact snappy_Write.mono _ _
   | exact LeO.none _
   | refine LeO.ite ?_ ?_
   | refine LeO.bind ?_ (fun _=>?_)
set_option maxHeartbeats 8000000 in
set_option maxRecDepth 100000 in
theorem snappy_Encode.calls (k : Nat) (a0 : ByteArray) (r1 : ByteArray) (r2 : Int) (w : World) (h : snappy_Encode.f k a0 = some (r1, r2)) :
  Calls Try.prog 14 #[.string a0] w fun e w'=>e = .returned (.tuple #[.string r1,.int .i64 r2]) ∧ Below w.heap.size w w' := by
 have HB := Aside0.mk (Below.refl w.heap.size w)
 have H : ((snappy_Pack.f k a0).bind fun bt268=>(if bt268.2 = 0 then ((snappy_Write.f k bt268.1).bind fun bt272=>(some (bt272.1,bt272.2))) else (some ((⟨#[]⟩ : ByteArray),bt268.2)))) = some (r1,r2) := h
 clear h
 replace H := Option.bind_eq_some_iff.mp H
 obtain ⟨⟨t268,t269⟩,A20,H⟩ := H
 replace H : (if t269 = 0 then ((snappy_Write.f k t268).bind fun bt272=>(some (bt272.1,bt272.2))) else (some ((⟨#[]⟩ : ByteArray),t269))) = some (r1,r2) := H
 have A2 := Aside0.mk A20
 clear A20
 by_cases c3 : t269 = 0
 ·rw [if_pos c3] at H
  have c3b0 : (t269 == 0) = true := beq_iff_eq.mpr c3
  have c3b1 : (t269 != 0) = false := bne_eq_false_iff_eq.mpr c3
  clear c3
  replace H := Option.bind_eq_some_iff.mp H
  obtain ⟨⟨t272,t273⟩,A40,H⟩ := H
  replace H : (some (t272,t273)) = some (r1,r2) := H
  have A4 := Aside0.mk A40
  clear A40
  simp only [Option.some.injEq,Prod.mk.injEq] at H
  obtain ⟨rfl,rfl⟩ := H
  go_enter Try.func14,Try.ntmps14
  go_wp2_with (first|((with_reducible refine gate_callee (f := 15) rfl ?_);refine goesL_ (some 8) rfl rfl Try.func15 (by kernel_rfl) rfl #[.string a0] rfl (by (try simp only [List.map_toArray,List.map_cons,List.map_nil]);first|done|rfl|(simp only [List.length_drop,List.length_take];rfl)) ?_;(with_reducible refine (snappy_Pack.calls k a0 t268 t269 _ A2.out).mono ?_);rintro e w5 ⟨v270,rfl,ho0,hb⟩;refine ⟨_,rfl,?_⟩;have n0_ := Aside0.mk (Kd.R_lower ho0 (below_size (bl_)));have n1_ := Aside0.mk (below_step (bl_) hb);clear HB;have HO271 := n0_;have HB := n1_;clear n0_ n1_;(try clear hb);(try clear hb2);(try clear hk);(try clear hi);(try clear ho0);obtain ⟨Ao6,co6,eo6⟩ := Kd.R_slice HO271.out;subst eo6)|((with_reducible refine gate_callee (f := 16) rfl ?_);refine goesL_ (some 15) rfl rfl Try.func16 (by kernel_rfl) rfl #[.slice Ao6 t268.length co6] rfl (by (try simp only [List.map_toArray,List.map_cons,List.map_nil]);first|done|rfl|(simp only [List.length_drop,List.length_take];rfl)) ?_;(with_reducible refine (snappy_Write.calls k _ _ t268 t272 t273 _ ?side1 ?side2 A4.out).mono ?_);(case side1=>repeat (first|exact (Kd.R_reads' HO271.out).2.2|(with_reducible refine Kd.C_alloc ?_ _)|(with_reducible refine Kd.C_drewN ?_ _)|(with_reducible refine Kd.C_drew ?_)));(case side2=>exact (Kd.R_reads' HO271.out).2.1);rintro e w7 ⟨rfl,hb⟩;refine ⟨_,rfl,?_⟩;have n0_ := Aside0.mk (Kd.R_below (by (with_reducible repeat (first|apply Kd.R_alloc|apply Kd.R_drewN|apply Kd.R_drew));exact HO271.out) hb);have n1_ := Aside0.mk (below_step (bl_) hb);clear HO271;clear HB;have HO271 := n0_;have HB := n1_;clear n0_ n1_;(try clear hb);(try clear hb2);(try clear hk);(try clear hi)))
  go_ret2
  exact ⟨by first|rfl|(simp [errW_none,errW_some] <;> rfl)|(simp [*,errW_none,errW_some] <;> rfl),bl_⟩
 ·rw [if_neg c3] at H
  have c3b0 : (t269 == 0) = false := beq_eq_false_iff_ne.mpr c3
  have c3b1 : (t269 != 0) = true := bne_iff_ne.mpr c3
  simp only [Option.some.injEq,Prod.mk.injEq] at H
  obtain ⟨rfl,rfl⟩ := H
  go_enter Try.func14,Try.ntmps14
  go_wp2_with (first|((with_reducible refine gate_callee (f := 15) rfl ?_);refine goesL_ (some 8) rfl rfl Try.func15 (by kernel_rfl) rfl #[.string a0] rfl (by (try simp only [List.map_toArray,List.map_cons,List.map_nil]);first|done|rfl|(simp only [List.length_drop,List.length_take];rfl)) ?_;(with_reducible refine (snappy_Pack.calls k a0 t268 t269 _ A2.out).mono ?_);rintro e w8 ⟨v270,rfl,ho0,hb⟩;refine ⟨_,rfl,?_⟩;have n0_ := Aside0.mk (Kd.R_lower ho0 (below_size (bl_)));have n1_ := Aside0.mk (below_step (bl_) hb);clear HB;have HO271 := n0_;have HB := n1_;clear n0_ n1_;(try clear hb);(try clear hb2);(try clear hk);(try clear hi);(try clear ho0)))
  go_ret2
  exact ⟨by first|rfl|(simp [errW_none,errW_some] <;> rfl)|(simp [*,errW_none,errW_some] <;> rfl),bl_⟩

/-! ### batonlaw03_is: function 32 -/
def batonlaw03_is.f (k : Nat) (a0 : ByteArray) (a1 : ByteArray) : Option (Bool) := (snappy_Encode.f k a0).bind fun bt274 => ((snappy_Decode.f k a1 100).bind fun bt276 => (if bt274.2 = 0 then (if bt274.1.toList = a1.toList then (if bt276.2 = 0 then (some (bt276.1.toList == a0.toList)) else (some false)) else (some false)) else (some false)))
theorem batonlaw03_is.mono : ∀ a0 a1 k, LeO (batonlaw03_is.f k a0 a1) (batonlaw03_is.f (k + 1) a0 a1) := by
 intro a0 a1 k
 unfold batonlaw03_is.f
 repeat' first
   | (with_reducible exact snappy_Decode.mono _ _ _)
   | (with_reducible exact snappy_Encode.mono _ _)
   | (with_reducible exact LeO.refl _)
   | (with_reducible exact LeO.none _)
   | (with_reducible refine LeO.ite ?_ ?_)
   | (with_reducible refine LeO.bind ?_ (fun _=>?_))
   | exact snappy_Decode.mono _ _ _
   | exact snappy_Encode.mono _ _
   | exact LeO.none _
   | refine LeO.ite ?_ ?_
   | refine LeO.bind ?_ (fun _=>?_)
set_option maxHeartbeats 8000000 in
set_option maxRecDepth 100000 in
theorem batonlaw03_is.calls (k : Nat) (a0 : ByteArray) (a1 : ByteArray) (r : Bool) (w : World) (h : batonlaw03_is.f k a0 a1 = some r) :
  Calls Try.prog 32 #[.string a0,.string a1] w fun e w'=>e = .returned (.bool r) ∧ Below w.heap.size w w' := by
 have HB := Aside0.mk (Below.refl w.heap.size w)
 have H : ((snappy_Encode.f k a0).bind fun bt274=>((snappy_Decode.f k a1 100).bind fun bt276=>(if bt274.2 = 0 then (if bt274.1.toList = a1.toList then (if bt276.2 = 0 then (some (bt276.1.toList == a0.toList)) else (some false)) else (some false)) else (some false)))) = some r := h
 clear h
 replace H := Option.bind_eq_some_iff.mp H
 obtain ⟨⟨t274,t275⟩,A30,H⟩ := H
 replace H : ((snappy_Decode.f k a1 100).bind fun bt276=>(if t275 = 0 then (if t274.toList = a1.toList then (if bt276.2 = 0 then (some (bt276.1.toList == a0.toList)) else (some false)) else (some false)) else (some false))) = some r := H
 have A3 := Aside0.mk A30
 clear A30
 replace H := Option.bind_eq_some_iff.mp H
 obtain ⟨⟨t276,t277⟩,A40,H⟩ := H
 replace H : (if t275 = 0 then (if t274.toList = a1.toList then (if t277 = 0 then (some (t276.toList == a0.toList)) else (some false)) else (some false)) else (some false)) = some r := H
 have A4 := Aside0.mk A40
 clear A40
 by_cases c5 : t275 = 0
 ·rw [if_pos c5] at H
  have c5b0 : (t275 == 0) = true := beq_iff_eq.mpr c5
  have c5b1 : (t275 != 0) = false := bne_eq_false_iff_eq.mpr c5
  clear c5
  by_cases c6 : t274.toList = a1.toList
  ·rw [if_pos c6] at H
   have c6b0 : (t274.toList == a1.toList) = true := beq_iff_eq.mpr c6
   have c6b1 : (t274.toList != a1.toList) = false := bne_eq_false_iff_eq.mpr c6
   clear c6
   by_cases c7 : t277 = 0
   ·rw [if_pos c7] at H
    have c7b0 : (t277 == 0) = true := beq_iff_eq.mpr c7
    have c7b1 : (t277 != 0) = false := bne_eq_false_iff_eq.mpr c7
    clear c7
    obtain rfl := Option.some.inj H
    go_enter Try.func32,Try.ntmps32
    go_wp2_with (first|((with_reducible refine gate_callee (f := 14) rfl ?_);refine goesL_ (some 11) rfl rfl Try.func14 (by kernel_rfl) rfl #[.string a0] rfl (by (try simp only [List.map_toArray,List.map_cons,List.map_nil]);first|done|rfl|(simp only [List.length_drop,List.length_take];rfl)) ?_;(with_reducible refine (snappy_Encode.calls k a0 t274 t275 _ A3.out).mono ?_);rintro e w8 ⟨rfl,hb⟩;refine ⟨_,rfl,?_⟩;have n0_ := Aside0.mk (below_step (bl_) hb);clear HB;have HB := n0_;clear n0_;(try clear hb);(try clear hb2);(try clear hk);(try clear hi))|((with_reducible refine gate_callee (f := 13) rfl ?_);refine goesL_ (some 16) rfl rfl Try.func13 (by kernel_rfl) rfl #[.string a1,.int .i64 100] rfl (by (try simp only [List.map_toArray,List.map_cons,List.map_nil]);first|done|rfl|(simp only [List.length_drop,List.length_take];rfl)) ?_;(with_reducible refine (snappy_Decode.calls k a1 100 t276 t277 _ A4.out).mono ?_);rintro e w9 ⟨rfl,hb⟩;refine ⟨_,rfl,?_⟩;have n0_ := Aside0.mk (below_step (bl_) hb);clear HB;have HB := n0_;clear n0_;(try clear hb);(try clear hb2);(try clear hk);(try clear hi)))
    go_ret
    exact ⟨by first|rfl|(simp [errW_none,errW_some] <;> rfl)|(simp [*,errW_none,errW_some] <;> rfl),bl_⟩
   ·rw [if_neg c7] at H
    have c7b0 : (t277 == 0) = false := beq_eq_false_iff_ne.mpr c7
    have c7b1 : (t277 != 0) = true := bne_iff_ne.mpr c7
    obtain rfl := Option.some.inj H
    go_enter Try.func32,Try.ntmps32
    go_wp2_with (first|((with_reducible refine gate_callee (f := 14) rfl ?_);refine goesL_ (some 11) rfl rfl Try.func14 (by kernel_rfl) rfl #[.string a0] rfl (by (try simp only [List.map_toArray,List.map_cons,List.map_nil]);first|done|rfl|(simp only [List.length_drop,List.length_take];rfl)) ?_;(with_reducible refine (snappy_Encode.calls k a0 t274 t275 _ A3.out).mono ?_);rintro e w10 ⟨rfl,hb⟩;refine ⟨_,rfl,?_⟩;have n0_ := Aside0.mk (below_step (bl_) hb);clear HB;have HB := n0_;clear n0_;(try clear hb);(try clear hb2);(try clear hk);(try clear hi))|((with_reducible refine gate_callee (f := 13) rfl ?_);refine goesL_ (some 16) rfl rfl Try.func13 (by kernel_rfl) rfl #[.string a1,.int .i64 100] rfl (by (try simp only [List.map_toArray,List.map_cons,List.map_nil]);first|done|rfl|(simp only [List.length_drop,List.length_take];rfl)) ?_;(with_reducible refine (snappy_Decode.calls k a1 100 t276 t277 _ A4.out).mono ?_);rintro e w11 ⟨rfl,hb⟩;refine ⟨_,rfl,?_⟩;have n0_ := Aside0.mk (below_step (bl_) hb);clear HB;have HB := n0_;clear n0_;(try clear hb);(try clear hb2);(try clear hk);(try clear hi)))
    go_ret
    exact ⟨by first|rfl|(simp [errW_none,errW_some] <;> rfl)|(simp [*,errW_none,errW_some] <;> rfl),bl_⟩
  ·rw [if_neg c6] at H
   have c6b0 : (t274.toList == a1.toList) = false := beq_eq_false_iff_ne.mpr c6
   have c6b1 : (t274.toList != a1.toList) = true := bne_iff_ne.mpr c6
   obtain rfl := Option.some.inj H
   go_enter Try.func32,Try.ntmps32
   go_wp2_with (first|((with_reducible refine gate_callee (f := 14) rfl ?_);refine goesL_ (some 11) rfl rfl Try.func14 (by kernel_rfl) rfl #[.string a0] rfl (by (try simp only [List.map_toArray,List.map_cons,List.map_nil]);first|done|rfl|(simp only [List.length_drop,List.length_take];rfl)) ?_;(with_reducible refine (snappy_Encode.calls k a0 t274 t275 _ A3.out).mono ?_);rintro e w12 ⟨rfl,hb⟩;refine ⟨_,rfl,?_⟩;have n0_ := Aside0.mk (below_step (bl_) hb);clear HB;have HB := n0_;clear n0_;(try clear hb);(try clear hb2);(try clear hk);(try clear hi))|((with_reducible refine gate_callee (f := 13) rfl ?_);refine goesL_ (some 16) rfl rfl Try.func13 (by kernel_rfl) rfl #[.string a1,.int .i64 100] rfl (by (try simp only [List.map_toArray,List.map_cons,List.map_nil]);first|done|rfl|(simp only [List.length_drop,List.length_take];rfl)) ?_;(with_reducible refine (snappy_Decode.calls k a1 100 t276 t277 _ A4.out).mono ?_);rintro e w13 ⟨rfl,hb⟩;refine ⟨_,rfl,?_⟩;have n0_ := Aside0.mk (below_step (bl_) hb);clear HB;have HB := n0_;clear n0_;(try clear hb);(try clear hb2);(try clear hk);(try clear hi)))
   go_ret
   exact ⟨by first|rfl|(simp [errW_none,errW_some] <;> rfl)|(simp [*,errW_none,errW_some] <;> rfl),bl_⟩
 ·rw [if_neg c5] at H
  have c5b0 : (t275 == 0) = false := beq_eq_false_iff_ne.mpr c5
  have c5b1 : (t275 != 0) = true := bne_iff_ne.mpr c5
  obtain rfl := Option.some.inj H
  go_enter Try.func32,Try.ntmps32
  go_wp2_with (first|((with_reducible refine gate_callee (f := 14) rfl ?_);refine goesL_ (some 11) rfl rfl Try.func14 (by kernel_rfl) rfl #[.string a0] rfl (by (try simp only [List.map_toArray,List.map_cons,List.map_nil]);first|done|rfl|(simp only [List.length_drop,List.length_take];rfl)) ?_;(with_reducible refine (snappy_Encode.calls k a0 t274 t275 _ A3.out).mono ?_);rintro e w14 ⟨rfl,hb⟩;refine ⟨_,rfl,?_⟩;have n0_ := Aside0.mk (below_step (bl_) hb);clear HB;have HB := n0_;clear n0_;(try clear hb);(try clear hb2);(try clear hk);(try clear hi))|((with_reducible refine gate_callee (f := 13) rfl ?_);refine goesL_ (some 16) rfl rfl Try.func13 (by kernel_rfl) rfl #[.string a1,.int .i64 100] rfl (by (try simp only [List.map_toArray,List.map_cons,List.map_nil]);first|done|rfl|(simp only [List.length_drop,List.length_take];rfl)) ?_;(with_reducible refine (snappy_Decode.calls k a1 100 t276 t277 _ A4.out).mono ?_);rintro e w15 ⟨rfl,hb⟩;refine ⟨_,rfl,?_⟩;have n0_ := Aside0.mk (below_step (bl_) hb);clear HB;have HB := n0_;clear n0_;(try clear hb);(try clear hb2);(try clear hk);(try clear hi)))
  go_ret
  exact ⟨by first|rfl|(simp [errW_none,errW_some] <;> rfl)|(simp [*,errW_none,errW_some] <;> rfl),bl_⟩

/-! ### batonlaw03_awake: function 12 -/
def batonlaw03_awake.f (k : Nat)  : Option (Bool) := (snappy_Decode.f k (⟨#[5, 1, 1]⟩ : ByteArray) 100).bind fun bt278 => ((snappy_Match.f k (⟨#[97, 98, 99, 97, 98, 99, 97, 98, 99]⟩ : ByteArray) 3).bind fun bt280 => ((batonlaw03_is.f k (⟨#[]⟩ : ByteArray) (⟨#[0]⟩ : ByteArray)).bind fun t282 => (if t282 = true then ((batonlaw03_is.f k (⟨#[97, 98, 99]⟩ : ByteArray) (⟨#[3, 8, 97, 98, 99]⟩ : ByteArray)).bind fun t283 => (if t283 = true then ((batonlaw03_is.f k (⟨#[97, 98, 99, 97, 98, 99, 97, 98, 99]⟩ : ByteArray) (⟨#[9, 8, 97, 98, 99, 9, 3]⟩ : ByteArray)).bind fun t284 => (if t284 = true then ((batonlaw03_is.f k (⟨#[97, 97, 97, 97, 97, 97, 97, 97, 97, 97]⟩ : ByteArray) (⟨#[10, 0, 97, 21, 1]⟩ : ByteArray)).bind fun t285 => (if t285 = true then (if bt278.2 = 4 then (if bt280.1 = 3 then (some (bt280.2 == 6)) else (some false)) else (some false)) else (some false))) else (some false))) else (some false))) else (some false))))
theorem batonlaw03_awake.mono : ∀ k, LeO (batonlaw03_awake.f k ) (batonlaw03_awake.f (k + 1) ) := by
 intro  k
 unfold batonlaw03_awake.f
 repeat' first
   | (with_reducible exact batonlaw03_is.mono _ _ _)
   | (with_reducible exact snappy_Decode.mono _ _ _)
   | (with_reducible exact snappy_Match.mono _ _ _)
   | (with_reducible exact LeO.refl _)
   | (with_reducible exact LeO.none _)
   | (with_reducible refine LeO.ite ?_ ?_)
   | (with_reducible refine LeO.bind ?_ (fun _=>?_))
   | exact batonlaw03_is.mono _ _ _
   | exact snappy_Decode.mono _ _ _
   | exact snappy_Match.mono _ _ _
   | exact LeO.none _
   | refine LeO.ite ?_ ?_
   | refine LeO.bind ?_ (fun _=>?_)
set_option maxHeartbeats 8000000 in
set_option maxRecDepth 100000 in
theorem batonlaw03_awake.calls (k : Nat)  (r : Bool) (w : World) (h : batonlaw03_awake.f k  = some r) :
  Calls Try.prog 12 #[] w fun e w'=>e = .returned (.bool r) ∧ Below w.heap.size w w' := by
 have HB := Aside0.mk (Below.refl w.heap.size w)
 have H : ((snappy_Decode.f k (⟨#[5,1,1]⟩ : ByteArray) 100).bind fun bt278=>((snappy_Match.f k (⟨#[97,98,99,97,98,99,97,98,99]⟩ : ByteArray) 3).bind fun bt280=>((batonlaw03_is.f k (⟨#[]⟩ : ByteArray) (⟨#[0]⟩ : ByteArray)).bind fun t282=>(if t282 = true then ((batonlaw03_is.f k (⟨#[97,98,99]⟩ : ByteArray) (⟨#[3,8,97,98,99]⟩ : ByteArray)).bind fun t283=>(if t283 = true then ((batonlaw03_is.f k (⟨#[97,98,99,97,98,99,97,98,99]⟩ : ByteArray) (⟨#[9,8,97,98,99,9,3]⟩ : ByteArray)).bind fun t284=>(if t284 = true then ((batonlaw03_is.f k (⟨#[97,97,97,97,97,97,97,97,97,97]⟩ : ByteArray) (⟨#[10,0,97,21,1]⟩ : ByteArray)).bind fun t285=>(if t285 = true then (if bt278.2 = 4 then (if bt280.1 = 3 then (some (bt280.2 == 6)) else (some false)) else (some false)) else (some false))) else (some false))) else (some false))) else (some false))))) = some r := h
 clear h
 replace H := Option.bind_eq_some_iff.mp H
 obtain ⟨⟨t278,t279⟩,A10,H⟩ := H
 replace H : ((snappy_Match.f k (⟨#[97,98,99,97,98,99,97,98,99]⟩ : ByteArray) 3).bind fun bt280=>((batonlaw03_is.f k (⟨#[]⟩ : ByteArray) (⟨#[0]⟩ : ByteArray)).bind fun t282=>(if t282 = true then ((batonlaw03_is.f k (⟨#[97,98,99]⟩ : ByteArray) (⟨#[3,8,97,98,99]⟩ : ByteArray)).bind fun t283=>(if t283 = true then ((batonlaw03_is.f k (⟨#[97,98,99,97,98,99,97,98,99]⟩ : ByteArray) (⟨#[9,8,97,98,99,9,3]⟩ : ByteArray)).bind fun t284=>(if t284 = true then ((batonlaw03_is.f k (⟨#[97,97,97,97,97,97,97,97,97,97]⟩ : ByteArray) (⟨#[10,0,97,21,1]⟩ : ByteArray)).bind fun t285=>(if t285 = true then (if t279 = 4 then (if bt280.1 = 3 then (some (bt280.2 == 6)) else (some false)) else (some false)) else (some false))) else (some false))) else (some false))) else (some false)))) = some r := H
 have A1 := Aside0.mk A10
 clear A10
 replace H := Option.bind_eq_some_iff.mp H
 obtain ⟨⟨t280,t281⟩,A20,H⟩ := H
 replace H : ((batonlaw03_is.f k (⟨#[]⟩ : ByteArray) (⟨#[0]⟩ : ByteArray)).bind fun t282=>(if t282 = true then ((batonlaw03_is.f k (⟨#[97,98,99]⟩ : ByteArray) (⟨#[3,8,97,98,99]⟩ : ByteArray)).bind fun t283=>(if t283 = true then ((batonlaw03_is.f k (⟨#[97,98,99,97,98,99,97,98,99]⟩ : ByteArray) (⟨#[9,8,97,98,99,9,3]⟩ : ByteArray)).bind fun t284=>(if t284 = true then ((batonlaw03_is.f k (⟨#[97,97,97,97,97,97,97,97,97,97]⟩ : ByteArray) (⟨#[10,0,97,21,1]⟩ : ByteArray)).bind fun t285=>(if t285 = true then (if t279 = 4 then (if t280 = 3 then (some (t281 == 6)) else (some false)) else (some false)) else (some false))) else (some false))) else (some false))) else (some false))) = some r := H
 have A2 := Aside0.mk A20
 clear A20
 replace H := Option.bind_eq_some_iff.mp H
 obtain ⟨t282,A30,H⟩ := H
 replace H : (if t282 = true then ((batonlaw03_is.f k (⟨#[97,98,99]⟩ : ByteArray) (⟨#[3,8,97,98,99]⟩ : ByteArray)).bind fun t283=>(if t283 = true then ((batonlaw03_is.f k (⟨#[97,98,99,97,98,99,97,98,99]⟩ : ByteArray) (⟨#[9,8,97,98,99,9,3]⟩ : ByteArray)).bind fun t284=>(if t284 = true then ((batonlaw03_is.f k (⟨#[97,97,97,97,97,97,97,97,97,97]⟩ : ByteArray) (⟨#[10,0,97,21,1]⟩ : ByteArray)).bind fun t285=>(if t285 = true then (if t279 = 4 then (if t280 = 3 then (some (t281 == 6)) else (some false)) else (some false)) else (some false))) else (some false))) else (some false))) else (some false)) = some r := H
 have A3 := Aside0.mk A30
 clear A30
 by_cases c4 : t282 = true
 ·subst c4
  have H1 : ((batonlaw03_is.f k (⟨#[97,98,99]⟩ : ByteArray) (⟨#[3,8,97,98,99]⟩ : ByteArray)).bind fun t283=>(if t283 = true then ((batonlaw03_is.f k (⟨#[97,98,99,97,98,99,97,98,99]⟩ : ByteArray) (⟨#[9,8,97,98,99,9,3]⟩ : ByteArray)).bind fun t284=>(if t284 = true then ((batonlaw03_is.f k (⟨#[97,97,97,97,97,97,97,97,97,97]⟩ : ByteArray) (⟨#[10,0,97,21,1]⟩ : ByteArray)).bind fun t285=>(if t285 = true then (if t279 = 4 then (if t280 = 3 then (some (t281 == 6)) else (some false)) else (some false)) else (some false))) else (some false))) else (some false))) = some r := by rw [if_pos rfl] at H;exact H
  clear H
  have H := H1
  clear H1
  replace H := Option.bind_eq_some_iff.mp H
  obtain ⟨t283,A50,H⟩ := H
  replace H : (if t283 = true then ((batonlaw03_is.f k (⟨#[97,98,99,97,98,99,97,98,99]⟩ : ByteArray) (⟨#[9,8,97,98,99,9,3]⟩ : ByteArray)).bind fun t284=>(if t284 = true then ((batonlaw03_is.f k (⟨#[97,97,97,97,97,97,97,97,97,97]⟩ : ByteArray) (⟨#[10,0,97,21,1]⟩ : ByteArray)).bind fun t285=>(if t285 = true then (if t279 = 4 then (if t280 = 3 then (some (t281 == 6)) else (some false)) else (some false)) else (some false))) else (some false))) else (some false)) = some r := H
  have A5 := Aside0.mk A50
  clear A50
  by_cases c6 : t283 = true
  ·subst c6
   have H1 : ((batonlaw03_is.f k (⟨#[97,98,99,97,98,99,97,98,99]⟩ : ByteArray) (⟨#[9,8,97,98,99,9,3]⟩ : ByteArray)).bind fun t284=>(if t284 = true then ((batonlaw03_is.f k (⟨#[97,97,97,97,97,97,97,97,97,97]⟩ : ByteArray) (⟨#[10,0,97,21,1]⟩ : ByteArray)).bind fun t285=>(if t285 = true then (if t279 = 4 then (if t280 = 3 then (some (t281 == 6)) else (some false)) else (some false)) else (some false))) else (some false))) = some r := by rw [if_pos rfl] at H;exact H
   clear H
   have H := H1
   clear H1
   replace H := Option.bind_eq_some_iff.mp H
   obtain ⟨t284,A70,H⟩ := H
   replace H : (if t284 = true then ((batonlaw03_is.f k (⟨#[97,97,97,97,97,97,97,97,97,97]⟩ : ByteArray) (⟨#[10,0,97,21,1]⟩ : ByteArray)).bind fun t285=>(if t285 = true then (if t279 = 4 then (if t280 = 3 then (some (t281 == 6)) else (some false)) else (some false)) else (some false))) else (some false)) = some r := H
   have A7 := Aside0.mk A70
   clear A70
   by_cases c8 : t284 = true
   ·subst c8
    have H1 : ((batonlaw03_is.f k (⟨#[97,97,97,97,97,97,97,97,97,97]⟩ : ByteArray) (⟨#[10,0,97,21,1]⟩ : ByteArray)).bind fun t285=>(if t285 = true then (if t279 = 4 then (if t280 = 3 then (some (t281 == 6)) else (some false)) else (some false)) else (some false))) = some r := by rw [if_pos rfl] at H;exact H
    clear H
    have H := H1
    clear H1
    replace H := Option.bind_eq_some_iff.mp H
    obtain ⟨t285,A90,H⟩ := H
    replace H : (if t285 = true then (if t279 = 4 then (if t280 = 3 then (some (t281 == 6)) else (some false)) else (some false)) else (some false)) = some r := H
    have A9 := Aside0.mk A90
    clear A90
    by_cases c10 : t285 = true
    ·subst c10
     have H1 : (if t279 = 4 then (if t280 = 3 then (some (t281 == 6)) else (some false)) else (some false)) = some r := by rw [if_pos rfl] at H;exact H
     clear H
     have H := H1
     clear H1
     by_cases c11 : t279 = 4
     ·rw [if_pos c11] at H
      have c11b0 : (t279 == 4) = true := beq_iff_eq.mpr c11
      have c11b1 : (t279 != 4) = false := bne_eq_false_iff_eq.mpr c11
      clear c11
      by_cases c12 : t280 = 3
      ·rw [if_pos c12] at H
       have c12b0 : (t280 == 3) = true := beq_iff_eq.mpr c12
       have c12b1 : (t280 != 3) = false := bne_eq_false_iff_eq.mpr c12
       clear c12
       obtain rfl := Option.some.inj H
       go_enter Try.func12,Try.ntmps12
       go_wp2_with (first|((with_reducible refine gate_callee (f := 13) rfl ?_);refine goesL_ (some 6) rfl rfl Try.func13 (by kernel_rfl) rfl #[.string (⟨#[5,1,1]⟩ : ByteArray),.int .i64 100] rfl (by (try simp only [List.map_toArray,List.map_cons,List.map_nil]);first|done|rfl|(simp only [List.length_drop,List.length_take];rfl)) ?_;(with_reducible refine (snappy_Decode.calls k (⟨#[5,1,1]⟩ : ByteArray) 100 t278 t279 _ A1.out).mono ?_);rintro e w13 ⟨rfl,hb⟩;refine ⟨_,rfl,?_⟩;have n0_ := Aside0.mk (below_step (bl_) hb);clear HB;have HB := n0_;clear n0_;(try clear hb);(try clear hb2);(try clear hk);(try clear hi))|((with_reducible refine gate_callee (f := 18) rfl ?_);refine goesL_ (some 10) rfl rfl Try.func18 (by kernel_rfl) rfl #[.string (⟨#[97,98,99,97,98,99,97,98,99]⟩ : ByteArray),.int .i64 3] rfl (by (try simp only [List.map_toArray,List.map_cons,List.map_nil]);first|done|rfl|(simp only [List.length_drop,List.length_take];rfl)) ?_;(with_reducible refine (snappy_Match.calls k (⟨#[97,98,99,97,98,99,97,98,99]⟩ : ByteArray) 3 t280 t281 _ A2.out).mono ?_);rintro e w14 ⟨rfl,hb⟩;refine ⟨_,rfl,?_⟩;have n0_ := Aside0.mk (below_step (bl_) hb);clear HB;have HB := n0_;clear n0_;(try clear hb);(try clear hb2);(try clear hk);(try clear hi))|((with_reducible refine gate_callee (f := 32) rfl ?_);refine goesL_ (some 13) rfl rfl Try.func32 (by kernel_rfl) rfl #[.string (⟨#[]⟩ : ByteArray),.string (⟨#[0]⟩ : ByteArray)] rfl (by (try simp only [List.map_toArray,List.map_cons,List.map_nil]);first|done|rfl|(simp only [List.length_drop,List.length_take];rfl)) ?_;(with_reducible refine (batonlaw03_is.calls k (⟨#[]⟩ : ByteArray) (⟨#[0]⟩ : ByteArray) true _ A3.out).mono ?_);rintro e w15 ⟨rfl,hb⟩;refine ⟨_,rfl,?_⟩;have n0_ := Aside0.mk (below_step (bl_) hb);clear HB;have HB := n0_;clear n0_;(try clear hb);(try clear hb2);(try clear hk);(try clear hi))|(go_at_call 32;(with_reducible refine (batonlaw03_is.calls k (⟨#[97,98,99]⟩ : ByteArray) (⟨#[3,8,97,98,99]⟩ : ByteArray) true _ A5.out).mono ?_);rintro e w16 ⟨rfl,hb⟩;have n0_ := Aside0.mk (below_step (bl_) hb);clear HB;have HB := n0_;clear n0_;(try clear hb);(try clear hb2);(try clear hk);(try clear hi))|(go_at_call 32;(with_reducible refine (batonlaw03_is.calls k (⟨#[97,98,99,97,98,99,97,98,99]⟩ : ByteArray) (⟨#[9,8,97,98,99,9,3]⟩ : ByteArray) true _ A7.out).mono ?_);rintro e w17 ⟨rfl,hb⟩;have n0_ := Aside0.mk (below_step (bl_) hb);clear HB;have HB := n0_;clear n0_;(try clear hb);(try clear hb2);(try clear hk);(try clear hi))|(go_at_call 32;(with_reducible refine (batonlaw03_is.calls k (⟨#[97,97,97,97,97,97,97,97,97,97]⟩ : ByteArray) (⟨#[10,0,97,21,1]⟩ : ByteArray) true _ A9.out).mono ?_);rintro e w18 ⟨rfl,hb⟩;have n0_ := Aside0.mk (below_step (bl_) hb);clear HB;have HB := n0_;clear n0_;(try clear hb);(try clear hb2);(try clear hk);(try clear hi)))
       go_ret
       exact ⟨by first|rfl|(simp [errW_none,errW_some] <;> rfl)|(simp [*,errW_none,errW_some] <;> rfl),bl_⟩
      ·rw [if_neg c12] at H
       have c12b0 : (t280 == 3) = false := beq_eq_false_iff_ne.mpr c12
       have c12b1 : (t280 != 3) = true := bne_iff_ne.mpr c12
       obtain rfl := Option.some.inj H
       go_enter Try.func12,Try.ntmps12
       go_wp2_with (first|((with_reducible refine gate_callee (f := 13) rfl ?_);refine goesL_ (some 6) rfl rfl Try.func13 (by kernel_rfl) rfl #[.string (⟨#[5,1,1]⟩ : ByteArray),.int .i64 100] rfl (by (try simp only [List.map_toArray,List.map_cons,List.map_nil]);first|done|rfl|(simp only [List.length_drop,List.length_take];rfl)) ?_;(with_reducible refine (snappy_Decode.calls k (⟨#[5,1,1]⟩ : ByteArray) 100 t278 t279 _ A1.out).mono ?_);rintro e w19 ⟨rfl,hb⟩;refine ⟨_,rfl,?_⟩;have n0_ := Aside0.mk (below_step (bl_) hb);clear HB;have HB := n0_;clear n0_;(try clear hb);(try clear hb2);(try clear hk);(try clear hi))|((with_reducible refine gate_callee (f := 18) rfl ?_);refine goesL_ (some 10) rfl rfl Try.func18 (by kernel_rfl) rfl #[.string (⟨#[97,98,99,97,98,99,97,98,99]⟩ : ByteArray),.int .i64 3] rfl (by (try simp only [List.map_toArray,List.map_cons,List.map_nil]);first|done|rfl|(simp only [List.length_drop,List.length_take];rfl)) ?_;(with_reducible refine (snappy_Match.calls k (⟨#[97,98,99,97,98,99,97,98,99]⟩ : ByteArray) 3 t280 t281 _ A2.out).mono ?_);rintro e w20 ⟨rfl,hb⟩;refine ⟨_,rfl,?_⟩;have n0_ := Aside0.mk (below_step (bl_) hb);clear HB;have HB := n0_;clear n0_;(try clear hb);(try clear hb2);(try clear hk);(try clear hi))|((with_reducible refine gate_callee (f := 32) rfl ?_);refine goesL_ (some 13) rfl rfl Try.func32 (by kernel_rfl) rfl #[.string (⟨#[]⟩ : ByteArray),.string (⟨#[0]⟩ : ByteArray)] rfl (by (try simp only [List.map_toArray,List.map_cons,List.map_nil]);first|done|rfl|(simp only [List.length_drop,List.length_take];rfl)) ?_;(with_reducible refine (batonlaw03_is.calls k (⟨#[]⟩ : ByteArray) (⟨#[0]⟩ : ByteArray) true _ A3.out).mono ?_);rintro e w21 ⟨rfl,hb⟩;refine ⟨_,rfl,?_⟩;have n0_ := Aside0.mk (below_step (bl_) hb);clear HB;have HB := n0_;clear n0_;(try clear hb);(try clear hb2);(try clear hk);(try clear hi))|(go_at_call 32;(with_reducible refine (batonlaw03_is.calls k (⟨#[97,98,99]⟩ : ByteArray) (⟨#[3,8,97,98,99]⟩ : ByteArray) true _ A5.out).mono ?_);rintro e w22 ⟨rfl,hb⟩;have n0_ := Aside0.mk (below_step (bl_) hb);clear HB;have HB := n0_;clear n0_;(try clear hb);(try clear hb2);(try clear hk);(try clear hi))|(go_at_call 32;(with_reducible refine (batonlaw03_is.calls k (⟨#[97,98,99,97,98,99,97,98,99]⟩ : ByteArray) (⟨#[9,8,97,98,99,9,3]⟩ : ByteArray) true _ A7.out).mono ?_);rintro e w23 ⟨rfl,hb⟩;have n0_ := Aside0.mk (below_step (bl_) hb);clear HB;have HB := n0_;clear n0_;(try clear hb);(try clear hb2);(try clear hk);(try clear hi))|(go_at_call 32;(with_reducible refine (batonlaw03_is.calls k (⟨#[97,97,97,97,97,97,97,97,97,97]⟩ : ByteArray) (⟨#[10,0,97,21,1]⟩ : ByteArray) true _ A9.out).mono ?_);rintro e w24 ⟨rfl,hb⟩;have n0_ := Aside0.mk (below_step (bl_) hb);clear HB;have HB := n0_;clear n0_;(try clear hb);(try clear hb2);(try clear hk);(try clear hi)))
       go_ret
       exact ⟨by first|rfl|(simp [errW_none,errW_some] <;> rfl)|(simp [*,errW_none,errW_some] <;> rfl),bl_⟩
     ·rw [if_neg c11] at H
      have c11b0 : (t279 == 4) = false := beq_eq_false_iff_ne.mpr c11
      have c11b1 : (t279 != 4) = true := bne_iff_ne.mpr c11
      obtain rfl := Option.some.inj H
      go_enter Try.func12,Try.ntmps12
      go_wp2_with (first|((with_reducible refine gate_callee (f := 13) rfl ?_);refine goesL_ (some 6) rfl rfl Try.func13 (by kernel_rfl) rfl #[.string (⟨#[5,1,1]⟩ : ByteArray),.int .i64 100] rfl (by (try simp only [List.map_toArray,List.map_cons,List.map_nil]);first|done|rfl|(simp only [List.length_drop,List.length_take];rfl)) ?_;(with_reducible refine (snappy_Decode.calls k (⟨#[5,1,1]⟩ : ByteArray) 100 t278 t279 _ A1.out).mono ?_);rintro e w25 ⟨rfl,hb⟩;refine ⟨_,rfl,?_⟩;have n0_ := Aside0.mk (below_step (bl_) hb);clear HB;have HB := n0_;clear n0_;(try clear hb);(try clear hb2);(try clear hk);(try clear hi))|((with_reducible refine gate_callee (f := 18) rfl ?_);refine goesL_ (some 10) rfl rfl Try.func18 (by kernel_rfl) rfl #[.string (⟨#[97,98,99,97,98,99,97,98,99]⟩ : ByteArray),.int .i64 3] rfl (by (try simp only [List.map_toArray,List.map_cons,List.map_nil]);first|done|rfl|(simp only [List.length_drop,List.length_take];rfl)) ?_;(with_reducible refine (snappy_Match.calls k (⟨#[97,98,99,97,98,99,97,98,99]⟩ : ByteArray) 3 t280 t281 _ A2.out).mono ?_);rintro e w26 ⟨rfl,hb⟩;refine ⟨_,rfl,?_⟩;have n0_ := Aside0.mk (below_step (bl_) hb);clear HB;have HB := n0_;clear n0_;(try clear hb);(try clear hb2);(try clear hk);(try clear hi))|((with_reducible refine gate_callee (f := 32) rfl ?_);refine goesL_ (some 13) rfl rfl Try.func32 (by kernel_rfl) rfl #[.string (⟨#[]⟩ : ByteArray),.string (⟨#[0]⟩ : ByteArray)] rfl (by (try simp only [List.map_toArray,List.map_cons,List.map_nil]);first|done|rfl|(simp only [List.length_drop,List.length_take];rfl)) ?_;(with_reducible refine (batonlaw03_is.calls k (⟨#[]⟩ : ByteArray) (⟨#[0]⟩ : ByteArray) true _ A3.out).mono ?_);rintro e w27 ⟨rfl,hb⟩;refine ⟨_,rfl,?_⟩;have n0_ := Aside0.mk (below_step (bl_) hb);clear HB;have HB := n0_;clear n0_;(try clear hb);(try clear hb2);(try clear hk);(try clear hi))|(go_at_call 32;(with_reducible refine (batonlaw03_is.calls k (⟨#[97,98,99]⟩ : ByteArray) (⟨#[3,8,97,98,99]⟩ : ByteArray) true _ A5.out).mono ?_);rintro e w28 ⟨rfl,hb⟩;have n0_ := Aside0.mk (below_step (bl_) hb);clear HB;have HB := n0_;clear n0_;(try clear hb);(try clear hb2);(try clear hk);(try clear hi))|(go_at_call 32;(with_reducible refine (batonlaw03_is.calls k (⟨#[97,98,99,97,98,99,97,98,99]⟩ : ByteArray) (⟨#[9,8,97,98,99,9,3]⟩ : ByteArray) true _ A7.out).mono ?_);rintro e w29 ⟨rfl,hb⟩;have n0_ := Aside0.mk (below_step (bl_) hb);clear HB;have HB := n0_;clear n0_;(try clear hb);(try clear hb2);(try clear hk);(try clear hi))|(go_at_call 32;(with_reducible refine (batonlaw03_is.calls k (⟨#[97,97,97,97,97,97,97,97,97,97]⟩ : ByteArray) (⟨#[10,0,97,21,1]⟩ : ByteArray) true _ A9.out).mono ?_);rintro e w30 ⟨rfl,hb⟩;have n0_ := Aside0.mk (below_step (bl_) hb);clear HB;have HB := n0_;clear n0_;(try clear hb);(try clear hb2);(try clear hk);(try clear hi)))
      go_ret
      exact ⟨by first|rfl|(simp [errW_none,errW_some] <;> rfl)|(simp [*,errW_none,errW_some] <;> rfl),bl_⟩
    ·replace c10 := Bool.eq_false_iff.mpr c10
     subst c10
     have H1 : (some false) = some r := by rw [if_neg (show ¬ (false = true) by decide)] at H;exact H
     clear H
     have H := H1
     clear H1
     obtain rfl := Option.some.inj H
     go_enter Try.func12,Try.ntmps12
     go_wp2_with (first|((with_reducible refine gate_callee (f := 13) rfl ?_);refine goesL_ (some 6) rfl rfl Try.func13 (by kernel_rfl) rfl #[.string (⟨#[5,1,1]⟩ : ByteArray),.int .i64 100] rfl (by (try simp only [List.map_toArray,List.map_cons,List.map_nil]);first|done|rfl|(simp only [List.length_drop,List.length_take];rfl)) ?_;(with_reducible refine (snappy_Decode.calls k (⟨#[5,1,1]⟩ : ByteArray) 100 t278 t279 _ A1.out).mono ?_);rintro e w31 ⟨rfl,hb⟩;refine ⟨_,rfl,?_⟩;have n0_ := Aside0.mk (below_step (bl_) hb);clear HB;have HB := n0_;clear n0_;(try clear hb);(try clear hb2);(try clear hk);(try clear hi))|((with_reducible refine gate_callee (f := 18) rfl ?_);refine goesL_ (some 10) rfl rfl Try.func18 (by kernel_rfl) rfl #[.string (⟨#[97,98,99,97,98,99,97,98,99]⟩ : ByteArray),.int .i64 3] rfl (by (try simp only [List.map_toArray,List.map_cons,List.map_nil]);first|done|rfl|(simp only [List.length_drop,List.length_take];rfl)) ?_;(with_reducible refine (snappy_Match.calls k (⟨#[97,98,99,97,98,99,97,98,99]⟩ : ByteArray) 3 t280 t281 _ A2.out).mono ?_);rintro e w32 ⟨rfl,hb⟩;refine ⟨_,rfl,?_⟩;have n0_ := Aside0.mk (below_step (bl_) hb);clear HB;have HB := n0_;clear n0_;(try clear hb);(try clear hb2);(try clear hk);(try clear hi))|((with_reducible refine gate_callee (f := 32) rfl ?_);refine goesL_ (some 13) rfl rfl Try.func32 (by kernel_rfl) rfl #[.string (⟨#[]⟩ : ByteArray),.string (⟨#[0]⟩ : ByteArray)] rfl (by (try simp only [List.map_toArray,List.map_cons,List.map_nil]);first|done|rfl|(simp only [List.length_drop,List.length_take];rfl)) ?_;(with_reducible refine (batonlaw03_is.calls k (⟨#[]⟩ : ByteArray) (⟨#[0]⟩ : ByteArray) true _ A3.out).mono ?_);rintro e w33 ⟨rfl,hb⟩;refine ⟨_,rfl,?_⟩;have n0_ := Aside0.mk (below_step (bl_) hb);clear HB;have HB := n0_;clear n0_;(try clear hb);(try clear hb2);(try clear hk);(try clear hi))|(go_at_call 32;(with_reducible refine (batonlaw03_is.calls k (⟨#[97,98,99]⟩ : ByteArray) (⟨#[3,8,97,98,99]⟩ : ByteArray) true _ A5.out).mono ?_);rintro e w34 ⟨rfl,hb⟩;have n0_ := Aside0.mk (below_step (bl_) hb);clear HB;have HB := n0_;clear n0_;(try clear hb);(try clear hb2);(try clear hk);(try clear hi))|(go_at_call 32;(with_reducible refine (batonlaw03_is.calls k (⟨#[97,98,99,97,98,99,97,98,99]⟩ : ByteArray) (⟨#[9,8,97,98,99,9,3]⟩ : ByteArray) true _ A7.out).mono ?_);rintro e w35 ⟨rfl,hb⟩;have n0_ := Aside0.mk (below_step (bl_) hb);clear HB;have HB := n0_;clear n0_;(try clear hb);(try clear hb2);(try clear hk);(try clear hi))|(go_at_call 32;(with_reducible refine (batonlaw03_is.calls k (⟨#[97,97,97,97,97,97,97,97,97,97]⟩ : ByteArray) (⟨#[10,0,97,21,1]⟩ : ByteArray) false _ A9.out).mono ?_);rintro e w36 ⟨rfl,hb⟩;have n0_ := Aside0.mk (below_step (bl_) hb);clear HB;have HB := n0_;clear n0_;(try clear hb);(try clear hb2);(try clear hk);(try clear hi)))
     go_ret
     exact ⟨by first|rfl|(simp [errW_none,errW_some] <;> rfl)|(simp [*,errW_none,errW_some] <;> rfl),bl_⟩
   ·replace c8 := Bool.eq_false_iff.mpr c8
    subst c8
    have H1 : (some false) = some r := by rw [if_neg (show ¬ (false = true) by decide)] at H;exact H
    clear H
    have H := H1
    clear H1
    obtain rfl := Option.some.inj H
    go_enter Try.func12,Try.ntmps12
    go_wp2_with (first|((with_reducible refine gate_callee (f := 13) rfl ?_);refine goesL_ (some 6) rfl rfl Try.func13 (by kernel_rfl) rfl #[.string (⟨#[5,1,1]⟩ : ByteArray),.int .i64 100] rfl (by (try simp only [List.map_toArray,List.map_cons,List.map_nil]);first|done|rfl|(simp only [List.length_drop,List.length_take];rfl)) ?_;(with_reducible refine (snappy_Decode.calls k (⟨#[5,1,1]⟩ : ByteArray) 100 t278 t279 _ A1.out).mono ?_);rintro e w37 ⟨rfl,hb⟩;refine ⟨_,rfl,?_⟩;have n0_ := Aside0.mk (below_step (bl_) hb);clear HB;have HB := n0_;clear n0_;(try clear hb);(try clear hb2);(try clear hk);(try clear hi))|((with_reducible refine gate_callee (f := 18) rfl ?_);refine goesL_ (some 10) rfl rfl Try.func18 (by kernel_rfl) rfl #[.string (⟨#[97,98,99,97,98,99,97,98,99]⟩ : ByteArray),.int .i64 3] rfl (by (try simp only [List.map_toArray,List.map_cons,List.map_nil]);first|done|rfl|(simp only [List.length_drop,List.length_take];rfl)) ?_;(with_reducible refine (snappy_Match.calls k (⟨#[97,98,99,97,98,99,97,98,99]⟩ : ByteArray) 3 t280 t281 _ A2.out).mono ?_);rintro e w38 ⟨rfl,hb⟩;refine ⟨_,rfl,?_⟩;have n0_ := Aside0.mk (below_step (bl_) hb);clear HB;have HB := n0_;clear n0_;(try clear hb);(try clear hb2);(try clear hk);(try clear hi))|((with_reducible refine gate_callee (f := 32) rfl ?_);refine goesL_ (some 13) rfl rfl Try.func32 (by kernel_rfl) rfl #[.string (⟨#[]⟩ : ByteArray),.string (⟨#[0]⟩ : ByteArray)] rfl (by (try simp only [List.map_toArray,List.map_cons,List.map_nil]);first|done|rfl|(simp only [List.length_drop,List.length_take];rfl)) ?_;(with_reducible refine (batonlaw03_is.calls k (⟨#[]⟩ : ByteArray) (⟨#[0]⟩ : ByteArray) true _ A3.out).mono ?_);rintro e w39 ⟨rfl,hb⟩;refine ⟨_,rfl,?_⟩;have n0_ := Aside0.mk (below_step (bl_) hb);clear HB;have HB := n0_;clear n0_;(try clear hb);(try clear hb2);(try clear hk);(try clear hi))|(go_at_call 32;(with_reducible refine (batonlaw03_is.calls k (⟨#[97,98,99]⟩ : ByteArray) (⟨#[3,8,97,98,99]⟩ : ByteArray) true _ A5.out).mono ?_);rintro e w40 ⟨rfl,hb⟩;have n0_ := Aside0.mk (below_step (bl_) hb);clear HB;have HB := n0_;clear n0_;(try clear hb);(try clear hb2);(try clear hk);(try clear hi))|(go_at_call 32;(with_reducible refine (batonlaw03_is.calls k (⟨#[97,98,99,97,98,99,97,98,99]⟩ : ByteArray) (⟨#[9,8,97,98,99,9,3]⟩ : ByteArray) false _ A7.out).mono ?_);rintro e w41 ⟨rfl,hb⟩;have n0_ := Aside0.mk (below_step (bl_) hb);clear HB;have HB := n0_;clear n0_;(try clear hb);(try clear hb2);(try clear hk);(try clear hi)))
    go_ret
    exact ⟨by first|rfl|(simp [errW_none,errW_some] <;> rfl)|(simp [*,errW_none,errW_some] <;> rfl),bl_⟩
  ·replace c6 := Bool.eq_false_iff.mpr c6
   subst c6
   have H1 : (some false) = some r := by rw [if_neg (show ¬ (false = true) by decide)] at H;exact H
   clear H
   have H := H1
   clear H1
   obtain rfl := Option.some.inj H
   go_enter Try.func12,Try.ntmps12
   go_wp2_with (first|((with_reducible refine gate_callee (f := 13) rfl ?_);refine goesL_ (some 6) rfl rfl Try.func13 (by kernel_rfl) rfl #[.string (⟨#[5,1,1]⟩ : ByteArray),.int .i64 100] rfl (by (try simp only [List.map_toArray,List.map_cons,List.map_nil]);first|done|rfl|(simp only [List.length_drop,List.length_take];rfl)) ?_;(with_reducible refine (snappy_Decode.calls k (⟨#[5,1,1]⟩ : ByteArray) 100 t278 t279 _ A1.out).mono ?_);rintro e w42 ⟨rfl,hb⟩;refine ⟨_,rfl,?_⟩;have n0_ := Aside0.mk (below_step (bl_) hb);clear HB;have HB := n0_;clear n0_;(try clear hb);(try clear hb2);(try clear hk);(try clear hi))|((with_reducible refine gate_callee (f := 18) rfl ?_);refine goesL_ (some 10) rfl rfl Try.func18 (by kernel_rfl) rfl #[.string (⟨#[97,98,99,97,98,99,97,98,99]⟩ : ByteArray),.int .i64 3] rfl (by (try simp only [List.map_toArray,List.map_cons,List.map_nil]);first|done|rfl|(simp only [List.length_drop,List.length_take];rfl)) ?_;(with_reducible refine (snappy_Match.calls k (⟨#[97,98,99,97,98,99,97,98,99]⟩ : ByteArray) 3 t280 t281 _ A2.out).mono ?_);rintro e w43 ⟨rfl,hb⟩;refine ⟨_,rfl,?_⟩;have n0_ := Aside0.mk (below_step (bl_) hb);clear HB;have HB := n0_;clear n0_;(try clear hb);(try clear hb2);(try clear hk);(try clear hi))|((with_reducible refine gate_callee (f := 32) rfl ?_);refine goesL_ (some 13) rfl rfl Try.func32 (by kernel_rfl) rfl #[.string (⟨#[]⟩ : ByteArray),.string (⟨#[0]⟩ : ByteArray)] rfl (by (try simp only [List.map_toArray,List.map_cons,List.map_nil]);first|done|rfl|(simp only [List.length_drop,List.length_take];rfl)) ?_;(with_reducible refine (batonlaw03_is.calls k (⟨#[]⟩ : ByteArray) (⟨#[0]⟩ : ByteArray) true _ A3.out).mono ?_);rintro e w44 ⟨rfl,hb⟩;refine ⟨_,rfl,?_⟩;have n0_ := Aside0.mk (below_step (bl_) hb);clear HB;have HB := n0_;clear n0_;(try clear hb);(try clear hb2);(try clear hk);(try clear hi))|(go_at_call 32;(with_reducible refine (batonlaw03_is.calls k (⟨#[97,98,99]⟩ : ByteArray) (⟨#[3,8,97,98,99]⟩ : ByteArray) false _ A5.out).mono ?_);rintro e w45 ⟨rfl,hb⟩;have n0_ := Aside0.mk (below_step (bl_) hb);clear HB;have HB := n0_;clear n0_;(try clear hb);(try clear hb2);(try clear hk);(try clear hi)))
   go_ret
   exact ⟨by first|rfl|(simp [errW_none,errW_some] <;> rfl)|(simp [*,errW_none,errW_some] <;> rfl),bl_⟩
 ·replace c4 := Bool.eq_false_iff.mpr c4
  subst c4
  have H1 : (some false) = some r := by rw [if_neg (show ¬ (false = true) by decide)] at H;exact H
  clear H
  have H := H1
  clear H1
  obtain rfl := Option.some.inj H
  go_enter Try.func12,Try.ntmps12
  go_wp2_with (first|((with_reducible refine gate_callee (f := 13) rfl ?_);refine goesL_ (some 6) rfl rfl Try.func13 (by kernel_rfl) rfl #[.string (⟨#[5,1,1]⟩ : ByteArray),.int .i64 100] rfl (by (try simp only [List.map_toArray,List.map_cons,List.map_nil]);first|done|rfl|(simp only [List.length_drop,List.length_take];rfl)) ?_;(with_reducible refine (snappy_Decode.calls k (⟨#[5,1,1]⟩ : ByteArray) 100 t278 t279 _ A1.out).mono ?_);rintro e w46 ⟨rfl,hb⟩;refine ⟨_,rfl,?_⟩;have n0_ := Aside0.mk (below_step (bl_) hb);clear HB;have HB := n0_;clear n0_;(try clear hb);(try clear hb2);(try clear hk);(try clear hi))|((with_reducible refine gate_callee (f := 18) rfl ?_);refine goesL_ (some 10) rfl rfl Try.func18 (by kernel_rfl) rfl #[.string (⟨#[97,98,99,97,98,99,97,98,99]⟩ : ByteArray),.int .i64 3] rfl (by (try simp only [List.map_toArray,List.map_cons,List.map_nil]);first|done|rfl|(simp only [List.length_drop,List.length_take];rfl)) ?_;(with_reducible refine (snappy_Match.calls k (⟨#[97,98,99,97,98,99,97,98,99]⟩ : ByteArray) 3 t280 t281 _ A2.out).mono ?_);rintro e w47 ⟨rfl,hb⟩;refine ⟨_,rfl,?_⟩;have n0_ := Aside0.mk (below_step (bl_) hb);clear HB;have HB := n0_;clear n0_;(try clear hb);(try clear hb2);(try clear hk);(try clear hi))|((with_reducible refine gate_callee (f := 32) rfl ?_);refine goesL_ (some 13) rfl rfl Try.func32 (by kernel_rfl) rfl #[.string (⟨#[]⟩ : ByteArray),.string (⟨#[0]⟩ : ByteArray)] rfl (by (try simp only [List.map_toArray,List.map_cons,List.map_nil]);first|done|rfl|(simp only [List.length_drop,List.length_take];rfl)) ?_;(with_reducible refine (batonlaw03_is.calls k (⟨#[]⟩ : ByteArray) (⟨#[0]⟩ : ByteArray) false _ A3.out).mono ?_);rintro e w48 ⟨rfl,hb⟩;refine ⟨_,rfl,?_⟩;have n0_ := Aside0.mk (below_step (bl_) hb);clear HB;have HB := n0_;clear n0_;(try clear hb);(try clear hb2);(try clear hk);(try clear hi)))
  go_ret
  exact ⟨by first|rfl|(simp [errW_none,errW_some] <;> rfl)|(simp [*,errW_none,errW_some] <;> rfl),bl_⟩

/-! ### batonlaw03_same: function 23 -/
def batonlaw03_same.l0 : Nat → List (S35) → List (S72) → Int → Option (Bool)
 | 0,_,_,_=>none
 | k + 1,x0,x1,x5=>if x5 < (x0.length : Int) then (if 0 ≤ x5 then (if x5 < (x1.length : Int) then (if (((rd_T35 x0 x5).f0) != ((rd_T72 x1 x5).f0)) = true then (some false) else (if ((rd_T35 x0 x5).f1).toList = ((rd_T72 x1 x5).f1).toList then (if ((rd_T35 x0 x5).f2) = ((rd_T72 x1 x5).f2) then (if ((rd_T35 x0 x5).f3) = ((rd_T72 x1 x5).f3) then (batonlaw03_same.l0 k x0 x1 (wrap64 (x5 + 1))) else (some false)) else (some false)) else (some false))) else (none)) else (none)) else (some true)
def batonlaw03_same.f (k : Nat) (l0 : List (S35)) (l1 : List (S72)) : Option (Bool) := if (l0.length : Int) = (l1.length : Int) then (batonlaw03_same.l0 k l0 l1 0) else (some false)
theorem batonlaw03_same.mono_l : ∀ k, (∀ y0 y1 y2, LeO (batonlaw03_same.l0 k y0 y1 y2) (batonlaw03_same.l0 (k + 1) y0 y1 y2))
 | 0=>fun _ _ _ r h=>by simp [batonlaw03_same.l0] at h
 | k + 1=>by
  have ih0 := batonlaw03_same.mono_l k
  ·intro y0 y1 y2
   unfold batonlaw03_same.l0
   repeat' first
   | (with_reducible exact ih0 _ _ _)
   | (with_reducible exact LeO.refl _)
   | (with_reducible exact LeO.none _)
   | (with_reducible refine LeO.ite ?_ ?_)
   | (with_reducible refine LeO.bind ?_ (fun _=>?_))
   | exact ih0 _ _ _
   | exact LeO.none _
   | refine LeO.ite ?_ ?_
   | refine LeO.bind ?_ (fun _=>?_)
theorem batonlaw03_same.mono : ∀ a0 a1 k, LeO (batonlaw03_same.f k a0 a1) (batonlaw03_same.f (k + 1) a0 a1) := by
 intro a0 a1 k
 have ih0 := batonlaw03_same.mono_l k
 unfold batonlaw03_same.f
 repeat' first
   | (with_reducible exact ih0 _ _ _)
   | (with_reducible exact LeO.refl _)
   | (with_reducible exact LeO.none _)
   | (with_reducible refine LeO.ite ?_ ?_)
   | (with_reducible refine LeO.bind ?_ (fun _=>?_))
   | exact ih0 _ _ _
   | exact LeO.none _
   | refine LeO.ite ?_ ?_
   | refine LeO.bind ?_ (fun _=>?_)
set_option maxHeartbeats 8000000 in
set_option maxRecDepth 100000 in
theorem batonlaw03_same.calls (k : Nat) (A0 : Option Addr) (c0 : Nat) (l0 : List (S35)) (A1 : Option Addr) (c1 : Nat) (l1 : List (S72)) (r : Bool) (w : World) (hr0 : Kd.C k35 w A0 l0.length l0) (hc0 : l0.length ≤ c0) (hr1 : Kd.C k72 w A1 l1.length l1) (hc1 : l1.length ≤ c1) (h : batonlaw03_same.f k l0 l1 = some r) :
  Calls Try.prog 23 #[.slice A0 l0.length c0,.slice A1 l1.length c1] w fun e w'=>e = .returned (.bool r) ∧ Drawn0 w w' := by
 have HR0 := Aside0.mk hr0
 have HC0 := Aside0.mk hc0
 clear hr0 hc0
 have HR1 := Aside0.mk hr1
 have HC1 := Aside0.mk hc1
 clear hr1 hc1
 have H : (if (l0.length : Int) = (l1.length : Int) then (batonlaw03_same.l0 k l0 l1 0) else (some false)) = some r := h
 clear h
 by_cases c3 : (l0.length : Int) = (l1.length : Int)
 ·rw [if_pos c3] at H
  have c3b0 : ((l0.length : Int) == (l1.length : Int)) = true := beq_iff_eq.mpr c3
  have c3b1 : ((l0.length : Int) != (l1.length : Int)) = false := bne_eq_false_iff_eq.mpr c3
  have c3b2 : (l0.length == l1.length) = true := by first|simpa using c3|(simp at c3 ⊢;omega)
  clear c3
  have H' := Aside0.mk H
  clear H
  go_enter Try.func23,Try.ntmps23
  go_wp2
  repeat (go_quiet (fail);try go_wp2)
  go_loopg [5] k (fun kq v5 w'=>∃ (x5_1 : Int),v5 = .int .i64 x5_1 ∧ Aside0 (batonlaw03_same.l0 kq l0 l1 x5_1 = some r) ∧ Aside0 (kq ≤ k) ∧ Drawn0 w w')
  case atStart=>exact ⟨(0),(by first|rfl|(simp;done)|(simp [*];done)),H',⟨Nat.le_refl _⟩,by repeat (first|exact Drawn0.refl _|apply Drawn0.step)⟩
  case round =>
   clear H'
   try clear c1
   try clear c2
   try clear p2
   try clear c3
   try clear c3b0
   try clear c3b1
   try clear c3b2
   obtain ⟨x5_1,rfl,HA,HK1,⟨m1,rfl⟩⟩ := hrel
   cases gk with
   | zero=>exact absurd HA.out (by simp [batonlaw03_same.l0])
   | succ k1 =>
    have H := HA.out
    clear HA
    simp only [batonlaw03_same.l0] at H
    by_cases c4 : x5_1 < (l0.length : Int)
    ·rw [if_pos c4] at H
     have c4b0 : decide (x5_1 < (l0.length : Int)) = true := decide_eq_true c4
     clear c4
     by_cases c5 : 0 ≤ x5_1
     ·rw [if_pos c5] at H
      have c5b0 : decide (0 ≤ x5_1) = true := decide_eq_true c5
      clear c5
      by_cases c6 : x5_1 < (l1.length : Int)
      ·rw [if_pos c6] at H
       have c6b0 : decide (x5_1 < (l1.length : Int)) = true := decide_eq_true c6
       clear c6
       by_cases c7 : (((rd_T35 l0 x5_1).f0) != ((rd_T72 l1 x5_1).f0)) = true
       ·rw [if_pos c7] at H
        have c7b0 : (((rd_T35 l0 x5_1).f0) != ((rd_T72 l1 x5_1).f0)) = true := c7
        (try (have c7b1 : decide (((rd_T35 l0 x5_1).f0) = ((rd_T72 l1 x5_1).f0)) = false := by simpa using c7))
        (try (have c7b2 : (((rd_T35 l0 x5_1).f0) == ((rd_T72 l1 x5_1).f0)) = false := by simpa using c7))
        (try (have c7b3 : ¬ (((rd_T35 l0 x5_1).f0) = ((rd_T72 l1 x5_1).f0)) := by simpa using c7))
        clear c7
        obtain rfl := Option.some.inj H
        have p286 : 0 ≤ (x5_1 : Int) := of_decide_eq_true (by first|(with_reducible assumption)|assumption)
        have q286 : x5_1 < (l0.length : Int) := of_decide_eq_true (by first|(with_reducible assumption)|assumption)
        obtain ⟨ad286,e286,hx286_0,hx286_1,hx286_2,hx286_3⟩ := at_T35 HR0.out x5_1 p286 q286
        cases e286
        replace p286 := eq_true p286
        replace q286 := eq_true q286
        have p287 : 0 ≤ (x5_1 : Int) := of_decide_eq_true (by first|(with_reducible assumption)|assumption)
        have q287 : x5_1 < (l1.length : Int) := of_decide_eq_true (by first|(with_reducible assumption)|assumption)
        obtain ⟨ad287,e287,hx287_0,hx287_1,hx287_2,hx287_3⟩ := at_T72 HR1.out x5_1 p287 q287
        cases e287
        replace p287 := eq_true p287
        replace q287 := eq_true q287
        go_wp2
        repeat (go_quiet (fail);try go_wp2)
        go_ret
        exact ⟨by first|rfl|(simp;done)|(simp [*];done),by repeat (first|exact Drawn0.refl _|apply Drawn0.step)⟩
       ·rw [if_neg c7] at H
        have c7b0 : (((rd_T35 l0 x5_1).f0) != ((rd_T72 l1 x5_1).f0)) = false := by simpa using c7
        (try (have c7b1 : decide (((rd_T35 l0 x5_1).f0) = ((rd_T72 l1 x5_1).f0)) = true := by simpa using c7))
        (try (have c7b2 : (((rd_T35 l0 x5_1).f0) == ((rd_T72 l1 x5_1).f0)) = true := by simpa using c7))
        clear c7
        by_cases c8 : ((rd_T35 l0 x5_1).f1).toList = ((rd_T72 l1 x5_1).f1).toList
        ·rw [if_pos c8] at H
         have c8b0 : (((rd_T35 l0 x5_1).f1).toList == ((rd_T72 l1 x5_1).f1).toList) = true := beq_iff_eq.mpr c8
         have c8b1 : (((rd_T35 l0 x5_1).f1).toList != ((rd_T72 l1 x5_1).f1).toList) = false := bne_eq_false_iff_eq.mpr c8
         clear c8
         by_cases c9 : ((rd_T35 l0 x5_1).f2) = ((rd_T72 l1 x5_1).f2)
         ·rw [if_pos c9] at H
          have c9b0 : (((rd_T35 l0 x5_1).f2) == ((rd_T72 l1 x5_1).f2)) = true := beq_iff_eq.mpr c9
          have c9b1 : (((rd_T35 l0 x5_1).f2) != ((rd_T72 l1 x5_1).f2)) = false := bne_eq_false_iff_eq.mpr c9
          clear c9
          by_cases c10 : ((rd_T35 l0 x5_1).f3) = ((rd_T72 l1 x5_1).f3)
          ·rw [if_pos c10] at H
           have c10b0 : (((rd_T35 l0 x5_1).f3) == ((rd_T72 l1 x5_1).f3)) = true := beq_iff_eq.mpr c10
           have c10b1 : (((rd_T35 l0 x5_1).f3) != ((rd_T72 l1 x5_1).f3)) = false := bne_eq_false_iff_eq.mpr c10
           clear c10
           have H' := Aside0.mk H
           clear H
           have p286 : 0 ≤ (x5_1 : Int) := of_decide_eq_true (by first|(with_reducible assumption)|assumption)
           have q286 : x5_1 < (l0.length : Int) := of_decide_eq_true (by first|(with_reducible assumption)|assumption)
           obtain ⟨ad286,e286,hx286_0,hx286_1,hx286_2,hx286_3⟩ := at_T35 HR0.out x5_1 p286 q286
           cases e286
           replace p286 := eq_true p286
           replace q286 := eq_true q286
           have p287 : 0 ≤ (x5_1 : Int) := of_decide_eq_true (by first|(with_reducible assumption)|assumption)
           have q287 : x5_1 < (l1.length : Int) := of_decide_eq_true (by first|(with_reducible assumption)|assumption)
           obtain ⟨ad287,e287,hx287_0,hx287_1,hx287_2,hx287_3⟩ := at_T72 HR1.out x5_1 p287 q287
           cases e287
           replace p287 := eq_true p287
           replace q287 := eq_true q287
           have p288 : 0 ≤ (x5_1 : Int) := of_decide_eq_true (by first|(with_reducible assumption)|assumption)
           have q288 : x5_1 < (l0.length : Int) := of_decide_eq_true (by first|(with_reducible assumption)|assumption)
           obtain ⟨ad288,e288,hx288_0,hx288_1,hx288_2,hx288_3⟩ := at_T35 HR0.out x5_1 p288 q288
           obtain rfl : ad286 = ad288 := (by injection e288)
           replace p288 := eq_true p288
           replace q288 := eq_true q288
           have p289 : 0 ≤ (x5_1 : Int) := of_decide_eq_true (by first|(with_reducible assumption)|assumption)
           have q289 : x5_1 < (l1.length : Int) := of_decide_eq_true (by first|(with_reducible assumption)|assumption)
           obtain ⟨ad289,e289,hx289_0,hx289_1,hx289_2,hx289_3⟩ := at_T72 HR1.out x5_1 p289 q289
           obtain rfl : ad287 = ad289 := (by injection e289)
           replace p289 := eq_true p289
           replace q289 := eq_true q289
           have p290 : 0 ≤ (x5_1 : Int) := of_decide_eq_true (by first|(with_reducible assumption)|assumption)
           have q290 : x5_1 < (l0.length : Int) := of_decide_eq_true (by first|(with_reducible assumption)|assumption)
           obtain ⟨ad290,e290,hx290_0,hx290_1,hx290_2,hx290_3⟩ := at_T35 HR0.out x5_1 p290 q290
           obtain rfl : ad286 = ad290 := (by injection e290)
           replace p290 := eq_true p290
           replace q290 := eq_true q290
           have p291 : 0 ≤ (x5_1 : Int) := of_decide_eq_true (by first|(with_reducible assumption)|assumption)
           have q291 : x5_1 < (l1.length : Int) := of_decide_eq_true (by first|(with_reducible assumption)|assumption)
           obtain ⟨ad291,e291,hx291_0,hx291_1,hx291_2,hx291_3⟩ := at_T72 HR1.out x5_1 p291 q291
           obtain rfl : ad287 = ad291 := (by injection e291)
           replace p291 := eq_true p291
           replace q291 := eq_true q291
           have p292 : 0 ≤ (x5_1 : Int) := of_decide_eq_true (by first|(with_reducible assumption)|assumption)
           have q292 : x5_1 < (l0.length : Int) := of_decide_eq_true (by first|(with_reducible assumption)|assumption)
           obtain ⟨ad292,e292,hx292_0,hx292_1,hx292_2,hx292_3⟩ := at_T35 HR0.out x5_1 p292 q292
           obtain rfl : ad286 = ad292 := (by injection e292)
           replace p292 := eq_true p292
           replace q292 := eq_true q292
           have p293 : 0 ≤ (x5_1 : Int) := of_decide_eq_true (by first|(with_reducible assumption)|assumption)
           have q293 : x5_1 < (l1.length : Int) := of_decide_eq_true (by first|(with_reducible assumption)|assumption)
           obtain ⟨ad293,e293,hx293_0,hx293_1,hx293_2,hx293_3⟩ := at_T72 HR1.out x5_1 p293 q293
           obtain rfl : ad287 = ad293 := (by injection e293)
           replace p293 := eq_true p293
           replace q293 := eq_true q293
           go_wp2
           repeat (go_quiet (fail);try go_wp2)
           go_roundg k1
           case measure=>have := HK1.out;omega
           case rel=>exact ⟨(wrap64 (x5_1 + 1)),(by first|rfl|(simp;done)|(simp [*];done)),H',⟨by have := HK1.out;omega⟩,by repeat (first|exact Drawn0.refl _|apply Drawn0.step)⟩
          ·rw [if_neg c10] at H
           have c10b0 : (((rd_T35 l0 x5_1).f3) == ((rd_T72 l1 x5_1).f3)) = false := beq_eq_false_iff_ne.mpr c10
           have c10b1 : (((rd_T35 l0 x5_1).f3) != ((rd_T72 l1 x5_1).f3)) = true := bne_iff_ne.mpr c10
           obtain rfl := Option.some.inj H
           have p286 : 0 ≤ (x5_1 : Int) := of_decide_eq_true (by first|(with_reducible assumption)|assumption)
           have q286 : x5_1 < (l0.length : Int) := of_decide_eq_true (by first|(with_reducible assumption)|assumption)
           obtain ⟨ad286,e286,hx286_0,hx286_1,hx286_2,hx286_3⟩ := at_T35 HR0.out x5_1 p286 q286
           cases e286
           replace p286 := eq_true p286
           replace q286 := eq_true q286
           have p287 : 0 ≤ (x5_1 : Int) := of_decide_eq_true (by first|(with_reducible assumption)|assumption)
           have q287 : x5_1 < (l1.length : Int) := of_decide_eq_true (by first|(with_reducible assumption)|assumption)
           obtain ⟨ad287,e287,hx287_0,hx287_1,hx287_2,hx287_3⟩ := at_T72 HR1.out x5_1 p287 q287
           cases e287
           replace p287 := eq_true p287
           replace q287 := eq_true q287
           have p288 : 0 ≤ (x5_1 : Int) := of_decide_eq_true (by first|(with_reducible assumption)|assumption)
           have q288 : x5_1 < (l0.length : Int) := of_decide_eq_true (by first|(with_reducible assumption)|assumption)
           obtain ⟨ad288,e288,hx288_0,hx288_1,hx288_2,hx288_3⟩ := at_T35 HR0.out x5_1 p288 q288
           obtain rfl : ad286 = ad288 := (by injection e288)
           replace p288 := eq_true p288
           replace q288 := eq_true q288
           have p289 : 0 ≤ (x5_1 : Int) := of_decide_eq_true (by first|(with_reducible assumption)|assumption)
           have q289 : x5_1 < (l1.length : Int) := of_decide_eq_true (by first|(with_reducible assumption)|assumption)
           obtain ⟨ad289,e289,hx289_0,hx289_1,hx289_2,hx289_3⟩ := at_T72 HR1.out x5_1 p289 q289
           obtain rfl : ad287 = ad289 := (by injection e289)
           replace p289 := eq_true p289
           replace q289 := eq_true q289
           have p290 : 0 ≤ (x5_1 : Int) := of_decide_eq_true (by first|(with_reducible assumption)|assumption)
           have q290 : x5_1 < (l0.length : Int) := of_decide_eq_true (by first|(with_reducible assumption)|assumption)
           obtain ⟨ad290,e290,hx290_0,hx290_1,hx290_2,hx290_3⟩ := at_T35 HR0.out x5_1 p290 q290
           obtain rfl : ad286 = ad290 := (by injection e290)
           replace p290 := eq_true p290
           replace q290 := eq_true q290
           have p291 : 0 ≤ (x5_1 : Int) := of_decide_eq_true (by first|(with_reducible assumption)|assumption)
           have q291 : x5_1 < (l1.length : Int) := of_decide_eq_true (by first|(with_reducible assumption)|assumption)
           obtain ⟨ad291,e291,hx291_0,hx291_1,hx291_2,hx291_3⟩ := at_T72 HR1.out x5_1 p291 q291
           obtain rfl : ad287 = ad291 := (by injection e291)
           replace p291 := eq_true p291
           replace q291 := eq_true q291
           have p292 : 0 ≤ (x5_1 : Int) := of_decide_eq_true (by first|(with_reducible assumption)|assumption)
           have q292 : x5_1 < (l0.length : Int) := of_decide_eq_true (by first|(with_reducible assumption)|assumption)
           obtain ⟨ad292,e292,hx292_0,hx292_1,hx292_2,hx292_3⟩ := at_T35 HR0.out x5_1 p292 q292
           obtain rfl : ad286 = ad292 := (by injection e292)
           replace p292 := eq_true p292
           replace q292 := eq_true q292
           have p293 : 0 ≤ (x5_1 : Int) := of_decide_eq_true (by first|(with_reducible assumption)|assumption)
           have q293 : x5_1 < (l1.length : Int) := of_decide_eq_true (by first|(with_reducible assumption)|assumption)
           obtain ⟨ad293,e293,hx293_0,hx293_1,hx293_2,hx293_3⟩ := at_T72 HR1.out x5_1 p293 q293
           obtain rfl : ad287 = ad293 := (by injection e293)
           replace p293 := eq_true p293
           replace q293 := eq_true q293
           go_wp2
           repeat (go_quiet (fail);try go_wp2)
           go_ret
           exact ⟨by first|rfl|(simp;done)|(simp [*];done),by repeat (first|exact Drawn0.refl _|apply Drawn0.step)⟩
         ·rw [if_neg c9] at H
          have c9b0 : (((rd_T35 l0 x5_1).f2) == ((rd_T72 l1 x5_1).f2)) = false := beq_eq_false_iff_ne.mpr c9
          have c9b1 : (((rd_T35 l0 x5_1).f2) != ((rd_T72 l1 x5_1).f2)) = true := bne_iff_ne.mpr c9
          obtain rfl := Option.some.inj H
          have p286 : 0 ≤ (x5_1 : Int) := of_decide_eq_true (by first|(with_reducible assumption)|assumption)
          have q286 : x5_1 < (l0.length : Int) := of_decide_eq_true (by first|(with_reducible assumption)|assumption)
          obtain ⟨ad286,e286,hx286_0,hx286_1,hx286_2,hx286_3⟩ := at_T35 HR0.out x5_1 p286 q286
          cases e286
          replace p286 := eq_true p286
          replace q286 := eq_true q286
          have p287 : 0 ≤ (x5_1 : Int) := of_decide_eq_true (by first|(with_reducible assumption)|assumption)
          have q287 : x5_1 < (l1.length : Int) := of_decide_eq_true (by first|(with_reducible assumption)|assumption)
          obtain ⟨ad287,e287,hx287_0,hx287_1,hx287_2,hx287_3⟩ := at_T72 HR1.out x5_1 p287 q287
          cases e287
          replace p287 := eq_true p287
          replace q287 := eq_true q287
          have p288 : 0 ≤ (x5_1 : Int) := of_decide_eq_true (by first|(with_reducible assumption)|assumption)
          have q288 : x5_1 < (l0.length : Int) := of_decide_eq_true (by first|(with_reducible assumption)|assumption)
          obtain ⟨ad288,e288,hx288_0,hx288_1,hx288_2,hx288_3⟩ := at_T35 HR0.out x5_1 p288 q288
          obtain rfl : ad286 = ad288 := (by injection e288)
          replace p288 := eq_true p288
          replace q288 := eq_true q288
          have p289 : 0 ≤ (x5_1 : Int) := of_decide_eq_true (by first|(with_reducible assumption)|assumption)
          have q289 : x5_1 < (l1.length : Int) := of_decide_eq_true (by first|(with_reducible assumption)|assumption)
          obtain ⟨ad289,e289,hx289_0,hx289_1,hx289_2,hx289_3⟩ := at_T72 HR1.out x5_1 p289 q289
          obtain rfl : ad287 = ad289 := (by injection e289)
          replace p289 := eq_true p289
          replace q289 := eq_true q289
          have p290 : 0 ≤ (x5_1 : Int) := of_decide_eq_true (by first|(with_reducible assumption)|assumption)
          have q290 : x5_1 < (l0.length : Int) := of_decide_eq_true (by first|(with_reducible assumption)|assumption)
          obtain ⟨ad290,e290,hx290_0,hx290_1,hx290_2,hx290_3⟩ := at_T35 HR0.out x5_1 p290 q290
          obtain rfl : ad286 = ad290 := (by injection e290)
          replace p290 := eq_true p290
          replace q290 := eq_true q290
          have p291 : 0 ≤ (x5_1 : Int) := of_decide_eq_true (by first|(with_reducible assumption)|assumption)
          have q291 : x5_1 < (l1.length : Int) := of_decide_eq_true (by first|(with_reducible assumption)|assumption)
          obtain ⟨ad291,e291,hx291_0,hx291_1,hx291_2,hx291_3⟩ := at_T72 HR1.out x5_1 p291 q291
          obtain rfl : ad287 = ad291 := (by injection e291)
          replace p291 := eq_true p291
          replace q291 := eq_true q291
          go_wp2
          repeat (go_quiet (fail);try go_wp2)
          go_ret
          exact ⟨by first|rfl|(simp;done)|(simp [*];done),by repeat (first|exact Drawn0.refl _|apply Drawn0.step)⟩
        ·rw [if_neg c8] at H
         have c8b0 : (((rd_T35 l0 x5_1).f1).toList == ((rd_T72 l1 x5_1).f1).toList) = false := beq_eq_false_iff_ne.mpr c8
         have c8b1 : (((rd_T35 l0 x5_1).f1).toList != ((rd_T72 l1 x5_1).f1).toList) = true := bne_iff_ne.mpr c8
         obtain rfl := Option.some.inj H
         have p286 : 0 ≤ (x5_1 : Int) := of_decide_eq_true (by first|(with_reducible assumption)|assumption)
         have q286 : x5_1 < (l0.length : Int) := of_decide_eq_true (by first|(with_reducible assumption)|assumption)
         obtain ⟨ad286,e286,hx286_0,hx286_1,hx286_2,hx286_3⟩ := at_T35 HR0.out x5_1 p286 q286
         cases e286
         replace p286 := eq_true p286
         replace q286 := eq_true q286
         have p287 : 0 ≤ (x5_1 : Int) := of_decide_eq_true (by first|(with_reducible assumption)|assumption)
         have q287 : x5_1 < (l1.length : Int) := of_decide_eq_true (by first|(with_reducible assumption)|assumption)
         obtain ⟨ad287,e287,hx287_0,hx287_1,hx287_2,hx287_3⟩ := at_T72 HR1.out x5_1 p287 q287
         cases e287
         replace p287 := eq_true p287
         replace q287 := eq_true q287
         have p288 : 0 ≤ (x5_1 : Int) := of_decide_eq_true (by first|(with_reducible assumption)|assumption)
         have q288 : x5_1 < (l0.length : Int) := of_decide_eq_true (by first|(with_reducible assumption)|assumption)
         obtain ⟨ad288,e288,hx288_0,hx288_1,hx288_2,hx288_3⟩ := at_T35 HR0.out x5_1 p288 q288
         obtain rfl : ad286 = ad288 := (by injection e288)
         replace p288 := eq_true p288
         replace q288 := eq_true q288
         have p289 : 0 ≤ (x5_1 : Int) := of_decide_eq_true (by first|(with_reducible assumption)|assumption)
         have q289 : x5_1 < (l1.length : Int) := of_decide_eq_true (by first|(with_reducible assumption)|assumption)
         obtain ⟨ad289,e289,hx289_0,hx289_1,hx289_2,hx289_3⟩ := at_T72 HR1.out x5_1 p289 q289
         obtain rfl : ad287 = ad289 := (by injection e289)
         replace p289 := eq_true p289
         replace q289 := eq_true q289
         go_wp2
         repeat (go_quiet (fail);try go_wp2)
         go_ret
         exact ⟨by first|rfl|(simp;done)|(simp [*];done),by repeat (first|exact Drawn0.refl _|apply Drawn0.step)⟩
      ·rw [if_neg c6] at H
       exact absurd H (by simp)
     ·rw [if_neg c5] at H
      exact absurd H (by simp)
    ·rw [if_neg c4] at H
     have c4b0 : decide (x5_1 < (l0.length : Int)) = false := decide_eq_false c4
     clear c4
     obtain rfl := Option.some.inj H
     go_wp2
     repeat (go_quiet (fail);try go_wp2)
     go_ret
     exact ⟨by first|rfl|(simp;done)|(simp [*];done),by repeat (first|exact Drawn0.refl _|apply Drawn0.step)⟩
 ·rw [if_neg c3] at H
  have c3b0 : ((l0.length : Int) == (l1.length : Int)) = false := beq_eq_false_iff_ne.mpr c3
  have c3b1 : ((l0.length : Int) != (l1.length : Int)) = true := bne_iff_ne.mpr c3
  have c3b2 : (l0.length == l1.length) = false := by first|simpa using c3|(simp at c3 ⊢;omega)
  obtain rfl := Option.some.inj H
  go_enter Try.func23,Try.ntmps23
  go_wp2
  repeat (go_quiet (fail);try go_wp2)
  go_ret
  exact ⟨by first|rfl|(simp;done)|(simp [*];done),by repeat (first|exact Drawn0.refl _|apply Drawn0.step)⟩

end Go.Proofs.Ythcjcmgdblhhfaa.PU

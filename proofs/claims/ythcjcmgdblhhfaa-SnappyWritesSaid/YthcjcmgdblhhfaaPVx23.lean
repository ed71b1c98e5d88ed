/- The machine side of these statements: what each Go function computes as a plain function, and that its call computes just that. Written by a program of mine (wip/drive.py). No conditions. -/
import Derived.Test.YthcjcmgdblhhfaaPVx0
import Derived.Test.YthcjcmgdblhhfaaPVx22
namespace Go.Proofs.Ythcjcmgdblhhfaa.PV
open Go.RowKit Go.Proofs.YthcjcmgdblhhfaaW.PrintWords Go.Proofs.YthcjcmgdblhhfaaW.PrintLast Go.Proofs.YthcjcmgdblhhfaaW.PrintMore
attribute [local go_sem] max2_int min2_int max_two min_two max_three min_three max_four min_four   -- for this text's walks alone
set_option linter.unusedVariables false
set_option linter.unusedSimpArgs false

/-! ### batonref03_Expand: function 21 -/
mutual
def batonref03_Expand.l0 : Nat → List (S72) → Int → ByteArray → Int → Option (ByteArray × Int)
 | 0,_,_,_,_=>none
 | k + 1,x0,x1,x6,x7=>if x7 < (x0.length : Int) then (if 0 ≤ x7 then ((batonref03_May.f ((rd_T72 x0 x7).f0) ((rd_T72 x0 x7).f1) ((rd_T72 x0 x7).f2) ((rd_T72 x0 x7).f3)).bind fun t350=>(if t350 = true then (if (rd_T72 x0 x7).f0 = true then (batonref03_Expand.j1 k x0 x1 x6 x7 (decide (((rd_T72 x0 x7).f2) > (x6.size : Int))) ((rd_T72 x0 x7).f0) ((rd_T72 x0 x7).f1) ((rd_T72 x0 x7).f2) ((rd_T72 x0 x7).f3)) else (batonref03_Expand.j1 k x0 x1 x6 x7 false ((rd_T72 x0 x7).f0) ((rd_T72 x0 x7).f1) ((rd_T72 x0 x7).f2) ((rd_T72 x0 x7).f3))) else (batonref03_Expand.j1 k x0 x1 x6 x7 true ((rd_T72 x0 x7).f0) ((rd_T72 x0 x7).f1) ((rd_T72 x0 x7).f2) ((rd_T72 x0 x7).f3)))) else (none)) else (some (x6,0))
def batonref03_Expand.j1 : Nat → List (S72) → Int → ByteArray → Int → Bool → Bool → ByteArray → Int → Int → Option (ByteArray × Int)
 | 0,_,_,_,_,_,_,_,_,_=>none
 | k + 1,x0,x1,x6,x7,x34,x350000,x350001,x350002,x350003=>if x34 = true then (some ((⟨#[]⟩ : ByteArray),4)) else (if (wrap64 ((x350001.size : Int) + x350003)) > (wrap64 (x1 - (x6.size : Int))) then (some ((⟨#[]⟩ : ByteArray),40)) else (if x6.size + x350001.size ≤ 9223372036854775807 then (batonref03_Expand.l1 k x0 x1 (x6 ++ x350001) x7 0 x350000 x350001 x350002 x350003) else (none)))
def batonref03_Expand.l1 : Nat → List (S72) → Int → ByteArray → Int → Int → Bool → ByteArray → Int → Int → Option (ByteArray × Int)
 | 0,_,_,_,_,_,_,_,_,_=>none
 | k + 1,x0,x1,x6,x7,x9,x350000,x350001,x350002,x350003=>if x9 < x350003 then (if 0 ≤ (wrap64 ((x6.size : Int) - x350002)) then (if (wrap64 ((x6.size : Int) - x350002)) ≤ (wrap64 ((wrap64 ((x6.size : Int) - x350002)) + 1)) then (if (wrap64 ((wrap64 ((x6.size : Int) - x350002)) + 1)) ≤ (x6.size : Int) then (if x6.size + (x6.extract ((wrap64 ((x6.size : Int) - x350002)) : Int).toNat ((wrap64 ((wrap64 ((x6.size : Int) - x350002)) + 1)) : Int).toNat).size ≤ 9223372036854775807 then (batonref03_Expand.l1 k x0 x1 (x6 ++ (x6.extract ((wrap64 ((x6.size : Int) - x350002)) : Int).toNat ((wrap64 ((wrap64 ((x6.size : Int) - x350002)) + 1)) : Int).toNat)) x7 (wrap64 (x9 + 1)) x350000 x350001 x350002 x350003) else (none)) else (none)) else (none)) else (none)) else (batonref03_Expand.l0 k x0 x1 x6 (wrap64 (x7 + 1)))
end
def batonref03_Expand.f (k : Nat) (l0 : List (S72)) (a1 : Int) : Option (ByteArray × Int) := batonref03_Expand.l0 k l0 a1 (⟨#[]⟩ : ByteArray) 0
theorem batonref03_Expand.mono_l : ∀ k, (∀ y0 y1 y2 y3, LeO (batonref03_Expand.l0 k y0 y1 y2 y3) (batonref03_Expand.l0 (k + 1) y0 y1 y2 y3)) ∧ (∀ y0 y1 y2 y3 y4 y5 y6 y7 y8, LeO (batonref03_Expand.j1 k y0 y1 y2 y3 y4 y5 y6 y7 y8) (batonref03_Expand.j1 (k + 1) y0 y1 y2 y3 y4 y5 y6 y7 y8)) ∧ (∀ y0 y1 y2 y3 y4 y5 y6 y7 y8, LeO (batonref03_Expand.l1 k y0 y1 y2 y3 y4 y5 y6 y7 y8) (batonref03_Expand.l1 (k + 1) y0 y1 y2 y3 y4 y5 y6 y7 y8))
 | 0=>⟨fun _ _ _ _ r h=>by simp [batonref03_Expand.l0] at h,fun _ _ _ _ _ _ _ _ _ r h=>by simp [batonref03_Expand.j1] at h,fun _ _ _ _ _ _ _ _ _ r h=>by simp [batonref03_Expand.l1] at h⟩
 | k + 1=>by
  obtain ⟨ih0,ih1,ih2⟩ := batonref03_Expand.mono_l k
  refine ⟨?_,?_,?_⟩
  ·intro y0 y1 y2 y3
   unfold batonref03_Expand.l0
   repeat' first
   | (with_reducible exact ih0 _ _ _ _)
   | (with_reducible exact ih1 _ _ _ _ _ _ _ _ _)
   | (with_reducible exact ih2 _ _ _ _ _ _ _ _ _)
   | (with_reducible exact LeO.refl _)
   | (with_reducible exact LeO.none _)
   | (with_reducible refine LeO.ite ?_ ?_)
   | (with_reducible refine LeO.bind ?_ (fun _=>?_))
   | exact ih0 _ _ _ _
   | exact ih1 _ _ _ _ _ _ _ _ _
   | exact ih2 _ _ _ _ _ _ _ _ _
   | exact LeO.none _
   | refine LeO.ite ?_ ?_
   | refine LeO.bind ?_ (fun _=>?_)
  ·intro y0 y1 y2 y3 y4 y5 y6 y7 y8
   unfold batonref03_Expand.j1
   repeat' first
   | (with_reducible exact ih0 _ _ _ _)
   | (with_reducible exact ih1 _ _ _ _ _ _ _ _ _)
   | (with_reducible exact ih2 _ _ _ _ _ _ _ _ _)
   | (with_reducible exact LeO.refl _)
   | (with_reducible exact LeO.none _)
   | (with_reducible refine LeO.ite ?_ ?_)
   | (with_reducible refine LeO.bind ?_ (fun _=>?_))
   | exact ih0 _ _ _ _
   | exact ih1 _ _ _ _ _ _ _ _ _
   | exact ih2 _ _ _ _ _ _ _ _ _
   | exact LeO.none _
   | refine LeO.ite ?_ ?_
   | refine LeO.bind ?_ (fun _=>?_)
  ·intro y0 y1 y2 y3 y4 y5 y6 y7 y8
   unfold batonref03_Expand.l1
   repeat' first
   | (with_reducible exact ih0 _ _ _ _)
   | (with_reducible exact ih1 _ _ _ _ _ _ _ _ _)
   | (with_reducible exact ih2 _ _ _ _ _ _ _ _ _)
   | (with_reducible exact LeO.refl _)
   | (with_reducible exact LeO.none _)
   | (with_reducible refine LeO.ite ?_ ?_)
   | (with_reducible refine LeO.bind ?_ (fun _=>?_))
   | exact ih0 _ _ _ _
   | exact ih1 _ _ _ _ _ _ _ _ _
   | exact ih2 _ _ _ _ _ _ _ _ _
   | exact LeO.none _
   | refine LeO.ite ?_ ?_
   | refine LeO.bind ?_ (fun _=>?_)
theorem batonref03_Expand.mono : ∀ a0 a1 k, LeO (batonref03_Expand.f k a0 a1) (batonref03_Expand.f (k + 1) a0 a1) := by
 intro a0 a1 k
 obtain ⟨ih0,ih1,ih2⟩ := batonref03_Expand.mono_l k
 unfold batonref03_Expand.f
 repeat' first
   | (with_reducible exact ih0 _ _ _ _)
   | (with_reducible exact ih1 _ _ _ _ _ _ _ _ _)
   | (with_reducible exact ih2 _ _ _ _ _ _ _ _ _)
   | (with_reducible exact LeO.refl _)
   | (with_reducible exact LeO.none _)
   | (with_reducible refine LeO.ite ?_ ?_)
   | (with_reducible refine LeO.bind ?_ (fun _=>?_))
   | exact ih0 _ _ _ _
   | exact ih1 _ _ _ _ _ _ _ _ _
   | exact ih2 _ _ _ _ _ _ _ _ _
   | exact LeO.none _
   | refine LeO.ite ?_ ?_
   | refine LeO.bind ?_ (fun _=>?_)
set_option maxHeartbeats 8000000 in
set_option maxRecDepth 100000 in
theorem batonref03_Expand.calls (k : Nat) (A0 : Option Addr) (c0 : Nat) (l0 : List (S72)) (a1 : Int) (r1 : ByteArray) (r2 : Int) (w : World) (hr0 : Kd.C k72 w A0 l0.length l0) (hc0 : l0.length ≤ c0) (h : batonref03_Expand.f k l0 a1 = some (r1, r2)) :
  Calls Try.prog 21 #[.slice A0 l0.length c0,.int .i64 a1] w fun e w'=>e = .returned (.tuple #[.string r1,.int .i64 r2]) ∧ Below w.heap.size w w' := by
 have hu72 := Try.underlying72
 have HR0 := Aside0.mk hr0
 have HC0 := Aside0.mk hc0
 clear hr0 hc0
 have HB := Aside0.mk (Below.refl w.heap.size w)
 have H : (batonref03_Expand.l0 k l0 a1 (⟨#[]⟩ : ByteArray) 0) = some (r1,r2) := h
 clear h
 have H' := Aside0.mk H
 clear H
 go_enter Try.func21,Try.ntmps21
 go_wp2
 go_loopg [6,7] k (fun kq v6 v7 w'=>∃ (x6_1 : ByteArray) (x7_1 : Int),v6 = .string x6_1 ∧ v7 = .int .i64 x7_1 ∧ Aside0 (batonref03_Expand.l0 kq l0 a1 x6_1 x7_1 = some (r1,r2)) ∧ Aside0 (kq ≤ k) ∧ Aside0 (Below w.heap.size w w'))
 case atStart=>exact ⟨((⟨#[]⟩ : ByteArray)),(0),q4_,q4_,H',⟨Nat.le_refl _⟩,⟨bl_⟩⟩
 case round =>
  clear H'
  try clear c2
  try clear p2
  obtain ⟨x6_1,x7_1,rfl,rfl,HA,HK1,HB⟩ := hrel
  cases gk with
  | zero=>exact absurd HA.out (by simp [batonref03_Expand.l0])
  | succ k1 =>
   have H := HA.out
   clear HA
   simp only [batonref03_Expand.l0] at H
   by_cases c3 : x7_1 < (l0.length : Int)
   ·rw [if_pos c3] at H
    have c3b0 : decide (x7_1 < (l0.length : Int)) = true := decide_eq_true c3
    clear c3
    by_cases c4 : 0 ≤ x7_1
    ·rw [if_pos c4] at H
     have c4b0 : decide (0 ≤ x7_1) = true := decide_eq_true c4
     clear c4
     have HC5 := Aside0.mk H
     clear H
     have p348 : 0 ≤ (x7_1 : Int) := of_decide_eq_true q3_
     have q348 : x7_1 < (l0.length : Int) := of_decide_eq_true q3_
     obtain ⟨ad348,e348,hx348_0,hx348_1,hx348_2,hx348_3⟩ := at_T72 HR0.out x7_1 p348 q348
     cases e348
     replace hx348_0 := (HB.out.cell (World.block_lt_of_cell? w _ hx348_0)).trans hx348_0
     replace hx348_1 := (HB.out.cell (World.block_lt_of_cell? w _ hx348_1)).trans hx348_1
     replace hx348_2 := (HB.out.cell (World.block_lt_of_cell? w _ hx348_2)).trans hx348_2
     replace hx348_3 := (HB.out.cell (World.block_lt_of_cell? w _ hx348_3)).trans hx348_3
     replace p348 := eq_true p348
     replace q348 := eq_true q348
     go_upto_region 6 with (first|((with_reducible refine gate_dst (N := 8) rfl ?_);(try (refine gate_guard (by rfl) ?_;dsimp only));refine box_event ?hg (N := 8) ?hd (cs := #[.bool false,.string (⟨#[]⟩ : ByteArray),.int .i64 0,.int .i64 0]) (t := 72) ?hr ?_;(case hd=>rfl);(case hg=>rfl);(case hr=>first|(go_simp;done)|(go_simp;rfl)|(go_simp;simp [my_u8w];done));intro gb349 hg w6 hbox hb;have n0_ := Aside0.mk (below_step (bl_) hb);have n1_ := Aside0.mk (hbox);have n2_ := Aside0.mk ((by rw [hg];exact (below_size (bl_)) : w.heap.size ≤ gb349));have n3_ := Aside0.mk ((by rw [hg];exact (below_size (bl_)) : w.heap.size ≤ gb349));clear HB;have HB := n0_;have BK349 := n1_;have GW349 := n2_;have GE349 := n3_;clear n0_ n1_ n2_ n3_;clear hb hbox hg;have hcz7_0 : w6.cell? ⟨gb349,0,none⟩ = some (.bool false) := (blk_cell BK349.out 0).trans rfl;have hcz7_1 : w6.cell? ⟨gb349,1,none⟩ = some (.string (⟨#[]⟩ : ByteArray)) := (blk_cell BK349.out 1).trans rfl;have hcz7_2 : w6.cell? ⟨gb349,2,none⟩ = some (.int .i64 0) := (blk_cell BK349.out 2).trans rfl;have hcz7_3 : w6.cell? ⟨gb349,3,none⟩ = some (.int .i64 0) := (blk_cell BK349.out 3).trans rfl;have hfz7_0 := blk_frozen BK349.out 0;have hfz7_1 := blk_frozen BK349.out 1;have hfz7_2 := blk_frozen BK349.out 2;have hfz7_3 := blk_frozen BK349.out 3))
     (try simp only [Act.put,List.setIfInBounds_toArray,List.set_cons_zero,List.set_cons_succ])
     go_cut [34] (fun v34 wc=>∃ (kq : Nat) (x34_4 : Bool),v34 = .bool x34_4 ∧ Aside0 (batonref03_Expand.j1 kq l0 a1 x6_1 x7_1 x34_4 ((rd_T72 l0 x7_1).f0) ((rd_T72 l0 x7_1).f1) ((rd_T72 l0 x7_1).f2) ((rd_T72 l0 x7_1).f3) = some (r1,r2)) ∧ Aside0 (kq ≤ k1) ∧ Aside0 (wc.heap[gb349]? = some (.cells #[.bool ((rd_T72 l0 x7_1).f0),.string ((rd_T72 l0 x7_1).f1),.int .i64 ((rd_T72 l0 x7_1).f2),.int .i64 ((rd_T72 l0 x7_1).f3)] 72 (0,0))) ∧ Aside0 (Below w.heap.size w wc))
     case first =>
      have H := HC5.out
      clear HC5
      replace H := Option.bind_eq_some_iff.mp H
      obtain ⟨t350,A80,H⟩ := H
      replace H : (if t350 = true then (if (rd_T72 l0 x7_1).f0 = true then (batonref03_Expand.j1 k1 l0 a1 x6_1 x7_1 (decide (((rd_T72 l0 x7_1).f2) > (x6_1.size : Int))) ((rd_T72 l0 x7_1).f0) ((rd_T72 l0 x7_1).f1) ((rd_T72 l0 x7_1).f2) ((rd_T72 l0 x7_1).f3)) else (batonref03_Expand.j1 k1 l0 a1 x6_1 x7_1 false ((rd_T72 l0 x7_1).f0) ((rd_T72 l0 x7_1).f1) ((rd_T72 l0 x7_1).f2) ((rd_T72 l0 x7_1).f3))) else (batonref03_Expand.j1 k1 l0 a1 x6_1 x7_1 true ((rd_T72 l0 x7_1).f0) ((rd_T72 l0 x7_1).f1) ((rd_T72 l0 x7_1).f2) ((rd_T72 l0 x7_1).f3))) = some (r1,r2) := H
      have A8 := Aside0.mk A80
      clear A80
      by_cases c9 : t350 = true
      ·subst c9
       have H1 : (if (rd_T72 l0 x7_1).f0 = true then (batonref03_Expand.j1 k1 l0 a1 x6_1 x7_1 (decide (((rd_T72 l0 x7_1).f2) > (x6_1.size : Int))) ((rd_T72 l0 x7_1).f0) ((rd_T72 l0 x7_1).f1) ((rd_T72 l0 x7_1).f2) ((rd_T72 l0 x7_1).f3)) else (batonref03_Expand.j1 k1 l0 a1 x6_1 x7_1 false ((rd_T72 l0 x7_1).f0) ((rd_T72 l0 x7_1).f1) ((rd_T72 l0 x7_1).f2) ((rd_T72 l0 x7_1).f3))) = some (r1,r2) := by rw [if_pos rfl] at H;exact H
       clear H
       have H := H1
       clear H1
       obtain ⟨bq10,hbq10⟩ : ∃ b_ : Bool,b_ = ((rd_T72 l0 x7_1).f0) := ⟨_,rfl⟩
       replace H : (if bq10 = true then (batonref03_Expand.j1 k1 l0 a1 x6_1 x7_1 (decide (((rd_T72 l0 x7_1).f2) > (x6_1.size : Int))) bq10 ((rd_T72 l0 x7_1).f1) ((rd_T72 l0 x7_1).f2) ((rd_T72 l0 x7_1).f3)) else (batonref03_Expand.j1 k1 l0 a1 x6_1 x7_1 false bq10 ((rd_T72 l0 x7_1).f1) ((rd_T72 l0 x7_1).f2) ((rd_T72 l0 x7_1).f3))) = some (r1,r2) := by rw [← hbq10] at H;exact H
       have Nbq10 := Aside0.mk hbq10
       clear hbq10
       (try rw [← Nbq10.out] at A8)
       (try rw [← Nbq10.out])
       by_cases c11 : bq10 = true
       ·subst c11
        have H1 : (batonref03_Expand.j1 k1 l0 a1 x6_1 x7_1 (decide (((rd_T72 l0 x7_1).f2) > (x6_1.size : Int))) true ((rd_T72 l0 x7_1).f1) ((rd_T72 l0 x7_1).f2) ((rd_T72 l0 x7_1).f3)) = some (r1,r2) := by rw [if_pos rfl] at H;exact H
        clear H
        have H := H1
        clear H1
        have H' := Aside0.mk H
        clear H
        have hcz12_0 : w6.cell? ⟨gb349,0,none⟩ = some (.bool false) := (blk_cell BK349.out 0).trans rfl
        have hcz12_1 : w6.cell? ⟨gb349,1,none⟩ = some (.string (⟨#[]⟩ : ByteArray)) := (blk_cell BK349.out 1).trans rfl
        have hcz12_2 : w6.cell? ⟨gb349,2,none⟩ = some (.int .i64 0) := (blk_cell BK349.out 2).trans rfl
        have hcz12_3 : w6.cell? ⟨gb349,3,none⟩ = some (.int .i64 0) := (blk_cell BK349.out 3).trans rfl
        have hfz12_0 := blk_frozen BK349.out 0
        have hfz12_1 := blk_frozen BK349.out 1
        have hfz12_2 := blk_frozen BK349.out 2
        have hfz12_3 := blk_frozen BK349.out 3
        go_wp2_with (first|((with_reducible refine gate_callee (f := 44) rfl ?_);refine goesL_ (some 22) rfl rfl Try.func44 q9_ rfl #[.agg #[.bool true,.string ((rd_T72 l0 x7_1).f1),.int .i64 ((rd_T72 l0 x7_1).f2),.int .i64 ((rd_T72 l0 x7_1).f3)]] rfl q0_ ?_;(with_reducible refine (batonref03_May.calls true ((rd_T72 l0 x7_1).f1) ((rd_T72 l0 x7_1).f2) ((rd_T72 l0 x7_1).f3) true _ A8.out).mono ?_);rintro e w13 ⟨rfl,hb⟩;refine ⟨_,rfl,?_⟩;have n0_ := Aside0.mk (blk_below (g := gb349) (o := .cells #[.bool true,.string ((rd_T72 l0 x7_1).f1),.int .i64 ((rd_T72 l0 x7_1).f2),.int .i64 ((rd_T72 l0 x7_1).f3)] 72 (0,0)) (by (with_reducible repeat (first|refine blk_drewN ?_ _|refine blk_drew ?_|refine blk_alloc ?_ _));refine blk_put (cs := #[.bool (true),.string ((rd_T72 l0 x7_1).f1),.int .i64 ((rd_T72 l0 x7_1).f2),.int .i64 0]) ?_ 3 _ rfl;(with_reducible repeat (first|refine blk_drewN ?_ _|refine blk_drew ?_|refine blk_alloc ?_ _));refine blk_put (cs := #[.bool (true),.string ((rd_T72 l0 x7_1).f1),.int .i64 0,.int .i64 0]) ?_ 2 _ rfl;(with_reducible repeat (first|refine blk_drewN ?_ _|refine blk_drew ?_|refine blk_alloc ?_ _));refine blk_put (cs := #[.bool (true),.string (⟨#[]⟩ : ByteArray),.int .i64 0,.int .i64 0]) ?_ 1 _ rfl;(with_reducible repeat (first|refine blk_drewN ?_ _|refine blk_drew ?_|refine blk_alloc ?_ _));refine blk_put (cs := #[.bool false,.string (⟨#[]⟩ : ByteArray),.int .i64 0,.int .i64 0]) ?_ 0 _ rfl;(with_reducible repeat (first|refine blk_drewN ?_ _|refine blk_drew ?_|refine blk_alloc ?_ _));exact BK349.out) hb);have n1_ := Aside0.mk (below_step q40_ hb);clear BK349;clear HB;have BK349 := n0_;have HB := n1_;clear n0_ n1_;(try clear hb);(try clear hb2);(try clear hk);(try clear hi);have hcz14_0 : w13.cell? ⟨gb349,0,none⟩ = some (.bool true) := (blk_cell BK349.out 0).trans rfl;have hcz14_1 : w13.cell? ⟨gb349,1,none⟩ = some (.string ((rd_T72 l0 x7_1).f1)) := (blk_cell BK349.out 1).trans rfl;have hcz14_2 : w13.cell? ⟨gb349,2,none⟩ = some (.int .i64 ((rd_T72 l0 x7_1).f2)) := (blk_cell BK349.out 2).trans rfl;have hcz14_3 : w13.cell? ⟨gb349,3,none⟩ = some (.int .i64 ((rd_T72 l0 x7_1).f3)) := (blk_cell BK349.out 3).trans rfl;have hfz14_0 := blk_frozen BK349.out 0;have hfz14_1 := blk_frozen BK349.out 1;have hfz14_2 := blk_frozen BK349.out 2;have hfz14_3 := blk_frozen BK349.out 3))
        go_meet
        case rel=>(try rw [← Nbq10.out]);exact ⟨_,(decide (((rd_T72 l0 x7_1).f2) > (x6_1.size : Int))),q4_,H',⟨q71_⟩,⟨q82_⟩,⟨q40_⟩⟩
       ·replace c11 := Bool.eq_false_iff.mpr c11
        subst c11
        have H1 : (batonref03_Expand.j1 k1 l0 a1 x6_1 x7_1 false false ((rd_T72 l0 x7_1).f1) ((rd_T72 l0 x7_1).f2) ((rd_T72 l0 x7_1).f3)) = some (r1,r2) := by rw [if_neg (show ¬ (false = true) by decide)] at H;exact H
        clear H
        have H := H1
        clear H1
        have H' := Aside0.mk H
        clear H
        have hcz15_0 : w6.cell? ⟨gb349,0,none⟩ = some (.bool false) := (blk_cell BK349.out 0).trans rfl
        have hcz15_1 : w6.cell? ⟨gb349,1,none⟩ = some (.string (⟨#[]⟩ : ByteArray)) := (blk_cell BK349.out 1).trans rfl
        have hcz15_2 : w6.cell? ⟨gb349,2,none⟩ = some (.int .i64 0) := (blk_cell BK349.out 2).trans rfl
        have hcz15_3 : w6.cell? ⟨gb349,3,none⟩ = some (.int .i64 0) := (blk_cell BK349.out 3).trans rfl
        have hfz15_0 := blk_frozen BK349.out 0
        have hfz15_1 := blk_frozen BK349.out 1
        have hfz15_2 := blk_frozen BK349.out 2
        have hfz15_3 := blk_frozen BK349.out 3
        go_wp2_with (first|((with_reducible refine gate_callee (f := 44) rfl ?_);refine goesL_ (some 22) rfl rfl Try.func44 q9_ rfl #[.agg #[.bool false,.string ((rd_T72 l0 x7_1).f1),.int .i64 ((rd_T72 l0 x7_1).f2),.int .i64 ((rd_T72 l0 x7_1).f3)]] rfl q0_ ?_;(with_reducible refine (batonref03_May.calls false ((rd_T72 l0 x7_1).f1) ((rd_T72 l0 x7_1).f2) ((rd_T72 l0 x7_1).f3) true _ A8.out).mono ?_);rintro e w16 ⟨rfl,hb⟩;refine ⟨_,rfl,?_⟩;have n0_ := Aside0.mk (blk_below (g := gb349) (o := .cells #[.bool false,.string ((rd_T72 l0 x7_1).f1),.int .i64 ((rd_T72 l0 x7_1).f2),.int .i64 ((rd_T72 l0 x7_1).f3)] 72 (0,0)) (by (with_reducible repeat (first|refine blk_drewN ?_ _|refine blk_drew ?_|refine blk_alloc ?_ _));refine blk_put (cs := #[.bool (false),.string ((rd_T72 l0 x7_1).f1),.int .i64 ((rd_T72 l0 x7_1).f2),.int .i64 0]) ?_ 3 _ rfl;(with_reducible repeat (first|refine blk_drewN ?_ _|refine blk_drew ?_|refine blk_alloc ?_ _));refine blk_put (cs := #[.bool (false),.string ((rd_T72 l0 x7_1).f1),.int .i64 0,.int .i64 0]) ?_ 2 _ rfl;(with_reducible repeat (first|refine blk_drewN ?_ _|refine blk_drew ?_|refine blk_alloc ?_ _));refine blk_put (cs := #[.bool (false),.string (⟨#[]⟩ : ByteArray),.int .i64 0,.int .i64 0]) ?_ 1 _ rfl;(with_reducible repeat (first|refine blk_drewN ?_ _|refine blk_drew ?_|refine blk_alloc ?_ _));refine blk_put (cs := #[.bool false,.string (⟨#[]⟩ : ByteArray),.int .i64 0,.int .i64 0]) ?_ 0 _ rfl;(with_reducible repeat (first|refine blk_drewN ?_ _|refine blk_drew ?_|refine blk_alloc ?_ _));exact BK349.out) hb);have n1_ := Aside0.mk (below_step q40_ hb);clear BK349;clear HB;have BK349 := n0_;have HB := n1_;clear n0_ n1_;(try clear hb);(try clear hb2);(try clear hk);(try clear hi);have hcz17_0 : w16.cell? ⟨gb349,0,none⟩ = some (.bool false) := (blk_cell BK349.out 0).trans rfl;have hcz17_1 : w16.cell? ⟨gb349,1,none⟩ = some (.string ((rd_T72 l0 x7_1).f1)) := (blk_cell BK349.out 1).trans rfl;have hcz17_2 : w16.cell? ⟨gb349,2,none⟩ = some (.int .i64 ((rd_T72 l0 x7_1).f2)) := (blk_cell BK349.out 2).trans rfl;have hcz17_3 : w16.cell? ⟨gb349,3,none⟩ = some (.int .i64 ((rd_T72 l0 x7_1).f3)) := (blk_cell BK349.out 3).trans rfl;have hfz17_0 := blk_frozen BK349.out 0;have hfz17_1 := blk_frozen BK349.out 1;have hfz17_2 := blk_frozen BK349.out 2;have hfz17_3 := blk_frozen BK349.out 3))
        go_meet
        case rel=>(try rw [← Nbq10.out]);exact ⟨_,(false),q4_,H',⟨q71_⟩,⟨q82_⟩,⟨q40_⟩⟩
      ·replace c9 := Bool.eq_false_iff.mpr c9
       subst c9
       have H1 : (batonref03_Expand.j1 k1 l0 a1 x6_1 x7_1 true ((rd_T72 l0 x7_1).f0) ((rd_T72 l0 x7_1).f1) ((rd_T72 l0 x7_1).f2) ((rd_T72 l0 x7_1).f3)) = some (r1,r2) := by rw [if_neg (show ¬ (false = true) by decide)] at H;exact H
       clear H
       have H := H1
       clear H1
       have H' := Aside0.mk H
       clear H
       have hcz18_0 : w6.cell? ⟨gb349,0,none⟩ = some (.bool false) := (blk_cell BK349.out 0).trans rfl
       have hcz18_1 : w6.cell? ⟨gb349,1,none⟩ = some (.string (⟨#[]⟩ : ByteArray)) := (blk_cell BK349.out 1).trans rfl
       have hcz18_2 : w6.cell? ⟨gb349,2,none⟩ = some (.int .i64 0) := (blk_cell BK349.out 2).trans rfl
       have hcz18_3 : w6.cell? ⟨gb349,3,none⟩ = some (.int .i64 0) := (blk_cell BK349.out 3).trans rfl
       have hfz18_0 := blk_frozen BK349.out 0
       have hfz18_1 := blk_frozen BK349.out 1
       have hfz18_2 := blk_frozen BK349.out 2
       have hfz18_3 := blk_frozen BK349.out 3
       go_wp2_with (first|((with_reducible refine gate_callee (f := 44) rfl ?_);refine goesL_ (some 22) rfl rfl Try.func44 q9_ rfl #[.agg #[.bool ((rd_T72 l0 x7_1).f0),.string ((rd_T72 l0 x7_1).f1),.int .i64 ((rd_T72 l0 x7_1).f2),.int .i64 ((rd_T72 l0 x7_1).f3)]] rfl q0_ ?_;(with_reducible refine (batonref03_May.calls ((rd_T72 l0 x7_1).f0) ((rd_T72 l0 x7_1).f1) ((rd_T72 l0 x7_1).f2) ((rd_T72 l0 x7_1).f3) false _ A8.out).mono ?_);rintro e w19 ⟨rfl,hb⟩;refine ⟨_,rfl,?_⟩;have n0_ := Aside0.mk (blk_below (g := gb349) (o := .cells #[.bool ((rd_T72 l0 x7_1).f0),.string ((rd_T72 l0 x7_1).f1),.int .i64 ((rd_T72 l0 x7_1).f2),.int .i64 ((rd_T72 l0 x7_1).f3)] 72 (0,0)) (by (with_reducible repeat (first|refine blk_drewN ?_ _|refine blk_drew ?_|refine blk_alloc ?_ _));refine blk_put (cs := #[.bool ((rd_T72 l0 x7_1).f0),.string ((rd_T72 l0 x7_1).f1),.int .i64 ((rd_T72 l0 x7_1).f2),.int .i64 0]) ?_ 3 _ rfl;(with_reducible repeat (first|refine blk_drewN ?_ _|refine blk_drew ?_|refine blk_alloc ?_ _));refine blk_put (cs := #[.bool ((rd_T72 l0 x7_1).f0),.string ((rd_T72 l0 x7_1).f1),.int .i64 0,.int .i64 0]) ?_ 2 _ rfl;(with_reducible repeat (first|refine blk_drewN ?_ _|refine blk_drew ?_|refine blk_alloc ?_ _));refine blk_put (cs := #[.bool ((rd_T72 l0 x7_1).f0),.string (⟨#[]⟩ : ByteArray),.int .i64 0,.int .i64 0]) ?_ 1 _ rfl;(with_reducible repeat (first|refine blk_drewN ?_ _|refine blk_drew ?_|refine blk_alloc ?_ _));refine blk_put (cs := #[.bool false,.string (⟨#[]⟩ : ByteArray),.int .i64 0,.int .i64 0]) ?_ 0 _ rfl;(with_reducible repeat (first|refine blk_drewN ?_ _|refine blk_drew ?_|refine blk_alloc ?_ _));exact BK349.out) hb);have n1_ := Aside0.mk (below_step q40_ hb);clear BK349;clear HB;have BK349 := n0_;have HB := n1_;clear n0_ n1_;(try clear hb);(try clear hb2);(try clear hk);(try clear hi)))
       go_meet
       case rel=>exact ⟨_,(true),q4_,H',⟨q71_⟩,⟨q82_⟩,⟨q40_⟩⟩
     case rest =>
      clear HC5
      try clear c1
      try clear q1
      try clear c2
      try clear p2
      try clear c3
      try clear c3b0
      try clear p3
      try clear q3
      try clear hx3
      try clear c4
      try clear c4b0
      try clear c9
      try clear q10
      try clear c11
      try clear hcz12_0
      try clear hcz12_1
      try clear hcz12_2
      try clear hcz12_3
      try clear hcz14_0
      try clear hcz14_1
      try clear hcz14_2
      try clear hcz14_3
      try clear hcz15_0
      try clear hcz15_1
      try clear hcz15_2
      try clear hcz15_3
      try clear hcz17_0
      try clear hcz17_1
      try clear hcz17_2
      try clear hcz17_3
      try clear hcz18_0
      try clear hcz18_1
      try clear hcz18_2
      try clear hcz18_3
      try clear hcz7_0
      try clear hcz7_1
      try clear hcz7_2
      try clear hcz7_3
      try clear hfz12_0
      try clear hfz12_1
      try clear hfz12_2
      try clear hfz12_3
      try clear hfz14_0
      try clear hfz14_1
      try clear hfz14_2
      try clear hfz14_3
      try clear hfz15_0
      try clear hfz15_1
      try clear hfz15_2
      try clear hfz15_3
      try clear hfz17_0
      try clear hfz17_1
      try clear hfz17_2
      try clear hfz17_3
      try clear hfz18_0
      try clear hfz18_1
      try clear hfz18_2
      try clear hfz18_3
      try clear hfz7_0
      try clear hfz7_1
      try clear hfz7_2
      try clear hfz7_3
      try clear hx348_0
      try clear hx348_1
      try clear hx348_2
      try clear hx348_3
      try clear p2
      try clear p348
      try clear q348
      obtain ⟨kq,x34_4,rfl,HA,HJ4,BK349,HB⟩ := hcut
      cases kq with
      | zero=>exact absurd HA.out (by simp [batonref03_Expand.j1])
      | succ kj4 =>
       have H := HA.out
       clear HA
       simp only [batonref03_Expand.j1] at H
       by_cases c20 : x34_4 = true
       ·subst c20
        have H1 : (some ((⟨#[]⟩ : ByteArray),4)) = some (r1,r2) := by rw [if_pos rfl] at H;exact H
        clear H
        have H := H1
        clear H1
        simp only [Option.some.injEq,Prod.mk.injEq] at H
        obtain ⟨rfl,rfl⟩ := H
        go_wp2
        go_ret2
        exact ⟨q1_,q40_⟩
       ·replace c20 := Bool.eq_false_iff.mpr c20
        subst c20
        have H1 : (if (wrap64 ((((rd_T72 l0 x7_1).f1).size : Int) + ((rd_T72 l0 x7_1).f3))) > (wrap64 (a1 - (x6_1.size : Int))) then (some ((⟨#[]⟩ : ByteArray),40)) else (if x6_1.size + ((rd_T72 l0 x7_1).f1).size ≤ 9223372036854775807 then (batonref03_Expand.l1 kj4 l0 a1 (x6_1 ++ ((rd_T72 l0 x7_1).f1)) x7_1 0 ((rd_T72 l0 x7_1).f0) ((rd_T72 l0 x7_1).f1) ((rd_T72 l0 x7_1).f2) ((rd_T72 l0 x7_1).f3)) else (none))) = some (r1,r2) := by rw [if_neg (show ¬ (false = true) by decide)] at H;exact H
        clear H
        have H := H1
        clear H1
        by_cases c21 : (wrap64 ((((rd_T72 l0 x7_1).f1).size : Int) + ((rd_T72 l0 x7_1).f3))) > (wrap64 (a1 - (x6_1.size : Int)))
        ·rw [if_pos c21] at H
         have c21b0 : decide ((wrap64 (a1 - (x6_1.size : Int))) < (wrap64 ((((rd_T72 l0 x7_1).f1).size : Int) + ((rd_T72 l0 x7_1).f3)))) = true := decide_eq_true c21
         clear c21
         simp only [Option.some.injEq,Prod.mk.injEq] at H
         obtain ⟨rfl,rfl⟩ := H
         have hcz22_0 : wc.cell? ⟨gb349,0,none⟩ = some (.bool ((rd_T72 l0 x7_1).f0)) := (blk_cell BK349.out 0).trans rfl
         have hcz22_1 : wc.cell? ⟨gb349,1,none⟩ = some (.string ((rd_T72 l0 x7_1).f1)) := (blk_cell BK349.out 1).trans rfl
         have hcz22_2 : wc.cell? ⟨gb349,2,none⟩ = some (.int .i64 ((rd_T72 l0 x7_1).f2)) := (blk_cell BK349.out 2).trans rfl
         have hcz22_3 : wc.cell? ⟨gb349,3,none⟩ = some (.int .i64 ((rd_T72 l0 x7_1).f3)) := (blk_cell BK349.out 3).trans rfl
         have hfz22_0 := blk_frozen BK349.out 0
         have hfz22_1 := blk_frozen BK349.out 1
         have hfz22_2 := blk_frozen BK349.out 2
         have hfz22_3 := blk_frozen BK349.out 3
         go_wp2
         go_ret2
         exact ⟨q1_,q40_⟩
        ·rw [if_neg c21] at H
         have c21b0 : decide ((wrap64 (a1 - (x6_1.size : Int))) < (wrap64 ((((rd_T72 l0 x7_1).f1).size : Int) + ((rd_T72 l0 x7_1).f3)))) = false := decide_eq_false c21
         clear c21
         by_cases c23 : x6_1.size + ((rd_T72 l0 x7_1).f1).size ≤ 9223372036854775807
         ·rw [if_pos c23] at H
          have c23b0 := eq_true c23
          have c23b1 : decide (x6_1.size + ((rd_T72 l0 x7_1).f1).size ≤ 9223372036854775807) = true := decide_eq_true c23
          try have c23b2 : (9223372036854775807 < x6_1.size + ((rd_T72 l0 x7_1).f1).size) = False := eq_false (Nat.not_lt.2 c23)
          have H' := Aside0.mk H
          clear H
          have hcz24_0 : wc.cell? ⟨gb349,0,none⟩ = some (.bool ((rd_T72 l0 x7_1).f0)) := (blk_cell BK349.out 0).trans rfl
          have hcz24_1 : wc.cell? ⟨gb349,1,none⟩ = some (.string ((rd_T72 l0 x7_1).f1)) := (blk_cell BK349.out 1).trans rfl
          have hcz24_2 : wc.cell? ⟨gb349,2,none⟩ = some (.int .i64 ((rd_T72 l0 x7_1).f2)) := (blk_cell BK349.out 2).trans rfl
          have hcz24_3 : wc.cell? ⟨gb349,3,none⟩ = some (.int .i64 ((rd_T72 l0 x7_1).f3)) := (blk_cell BK349.out 3).trans rfl
          have hfz24_0 := blk_frozen BK349.out 0
          have hfz24_1 := blk_frozen BK349.out 1
          have hfz24_2 := blk_frozen BK349.out 2
          have hfz24_3 := blk_frozen BK349.out 3
          go_wp2
          go_loopg [6,9] kj4 (fun kq v6 v9 w'=>∃ (x6_3 : ByteArray) (x9_3 : Int),v6 = .string x6_3 ∧ v9 = .int .i64 x9_3 ∧ Aside0 (batonref03_Expand.l1 kq l0 a1 x6_3 x7_1 x9_3 ((rd_T72 l0 x7_1).f0) ((rd_T72 l0 x7_1).f1) ((rd_T72 l0 x7_1).f2) ((rd_T72 l0 x7_1).f3) = some (r1,r2)) ∧ Aside0 (kq ≤ kj4) ∧ Aside0 (w'.heap[gb349]? = some (.cells #[.bool ((rd_T72 l0 x7_1).f0),.string ((rd_T72 l0 x7_1).f1),.int .i64 ((rd_T72 l0 x7_1).f2),.int .i64 ((rd_T72 l0 x7_1).f3)] 72 (0,0))) ∧ Aside0 (Below w.heap.size w w'))
          case atStart=>exact ⟨(x6_1 ++ ((rd_T72 l0 x7_1).f1)),(0),q4_,q4_,H',⟨Nat.le_refl _⟩,⟨q82_⟩,⟨q40_⟩⟩
          case round =>
           clear H'
           try clear c1
           try clear q1
           try clear c2
           try clear p2
           try clear c3
           try clear c3b0
           try clear p3
           try clear q3
           try clear hx3
           try clear c4
           try clear c4b0
           try clear p6
           try clear c9
           try clear q10
           try clear c11
           try clear c20
           try clear c21
           try clear c21b0
           try clear c23
           try clear c23b0
           try clear c23b1
           try clear c23b2
           try clear hcz12_0
           try clear hcz12_1
           try clear hcz12_2
           try clear hcz12_3
           try clear hcz14_0
           try clear hcz14_1
           try clear hcz14_2
           try clear hcz14_3
           try clear hcz15_0
           try clear hcz15_1
           try clear hcz15_2
           try clear hcz15_3
           try clear hcz17_0
           try clear hcz17_1
           try clear hcz17_2
           try clear hcz17_3
           try clear hcz18_0
           try clear hcz18_1
           try clear hcz18_2
           try clear hcz18_3
           try clear hcz22_0
           try clear hcz22_1
           try clear hcz22_2
           try clear hcz22_3
           try clear hcz24_0
           try clear hcz24_1
           try clear hcz24_2
           try clear hcz24_3
           try clear hcz7_0
           try clear hcz7_1
           try clear hcz7_2
           try clear hcz7_3
           try clear hfz12_0
           try clear hfz12_1
           try clear hfz12_2
           try clear hfz12_3
           try clear hfz14_0
           try clear hfz14_1
           try clear hfz14_2
           try clear hfz14_3
           try clear hfz15_0
           try clear hfz15_1
           try clear hfz15_2
           try clear hfz15_3
           try clear hfz17_0
           try clear hfz17_1
           try clear hfz17_2
           try clear hfz17_3
           try clear hfz18_0
           try clear hfz18_1
           try clear hfz18_2
           try clear hfz18_3
           try clear hfz22_0
           try clear hfz22_1
           try clear hfz22_2
           try clear hfz22_3
           try clear hfz24_0
           try clear hfz24_1
           try clear hfz24_2
           try clear hfz24_3
           try clear hfz7_0
           try clear hfz7_1
           try clear hfz7_2
           try clear hfz7_3
           try clear hx348_0
           try clear hx348_1
           try clear hx348_2
           try clear hx348_3
           try clear p2
           try clear p3
           try clear p348
           try clear q1
           try clear q10
           try clear q3
           try clear q348
           obtain ⟨x6_3,x9_3,rfl,rfl,HA,HK3,BK349,HB⟩ := hrel
           cases gk with
           | zero=>exact absurd HA.out (by simp [batonref03_Expand.l1])
           | succ k3 =>
            have H := HA.out
            clear HA
            simp only [batonref03_Expand.l1] at H
            by_cases c25 : x9_3 < ((rd_T72 l0 x7_1).f3)
            ·rw [if_pos c25] at H
             have c25b0 : decide (x9_3 < ((rd_T72 l0 x7_1).f3)) = true := decide_eq_true c25
             clear c25
             obtain ⟨ji26,hji26⟩ : ∃ j_ : Int,(wrap64 ((x6_3.size : Int) - ((rd_T72 l0 x7_1).f2))) = j_ := ⟨_,rfl⟩
             replace H : (if 0 ≤ (ji26) then (if (ji26) ≤ (wrap64 ((ji26) + 1)) then (if (wrap64 ((ji26) + 1)) ≤ (x6_3.size : Int) then (if x6_3.size + (x6_3.extract ((ji26) : Int).toNat ((wrap64 ((ji26) + 1)) : Int).toNat).size ≤ 9223372036854775807 then (batonref03_Expand.l1 k3 l0 a1 (x6_3 ++ (x6_3.extract ((ji26) : Int).toNat ((wrap64 ((ji26) + 1)) : Int).toNat)) x7_1 (wrap64 (x9_3 + 1)) ((rd_T72 l0 x7_1).f0) ((rd_T72 l0 x7_1).f1) ((rd_T72 l0 x7_1).f2) ((rd_T72 l0 x7_1).f3)) else (none)) else (none)) else (none)) else (none)) = some (r1,r2) := by first|(rw [hji26] at H;exact H)|(simp only [hji26] at H ⊢;exact H)
             have hji26w : (IntKind.i64.wrap ((x6_3.size : Int) - ((rd_T72 l0 x7_1).f2))) = ji26 := (i64_w _).trans hji26
             by_cases c27 : 0 ≤ (ji26)
             ·rw [if_pos c27] at H
              have c27b0 := eq_true c27
              have c27b1 : decide (0 ≤ (ji26)) = true := decide_eq_true c27
              clear c27
              by_cases c28 : (ji26) ≤ (wrap64 ((ji26) + 1))
              ·rw [if_pos c28] at H
               have c28b0 := eq_true c28
               have c28b1 : decide ((ji26) ≤ (wrap64 ((ji26) + 1))) = true := decide_eq_true c28
               by_cases c29 : (wrap64 ((ji26) + 1)) ≤ (x6_3.size : Int)
               ·rw [if_pos c29] at H
                have c29b0 := eq_true c29
                have c29b1 : decide ((wrap64 ((ji26) + 1)) ≤ (x6_3.size : Int)) = true := decide_eq_true c29
                by_cases c30 : x6_3.size + (x6_3.extract ((ji26) : Int).toNat ((wrap64 ((ji26) + 1)) : Int).toNat).size ≤ 9223372036854775807
                ·rw [if_pos c30] at H
                 have c30b0 := eq_true c30
                 have c30b1 : decide (x6_3.size + (x6_3.extract ((ji26) : Int).toNat ((wrap64 ((ji26) + 1)) : Int).toNat).size ≤ 9223372036854775807) = true := decide_eq_true c30
                 try have c30b2 : (9223372036854775807 < x6_3.size + (x6_3.extract ((ji26) : Int).toNat ((wrap64 ((ji26) + 1)) : Int).toNat).size) = False := eq_false (Nat.not_lt.2 c30)
                 have H' := Aside0.mk H
                 clear H
                 have hcz31_0 : wr.cell? ⟨gb349,0,none⟩ = some (.bool ((rd_T72 l0 x7_1).f0)) := (blk_cell BK349.out 0).trans rfl
                 have hcz31_1 : wr.cell? ⟨gb349,1,none⟩ = some (.string ((rd_T72 l0 x7_1).f1)) := (blk_cell BK349.out 1).trans rfl
                 have hcz31_2 : wr.cell? ⟨gb349,2,none⟩ = some (.int .i64 ((rd_T72 l0 x7_1).f2)) := (blk_cell BK349.out 2).trans rfl
                 have hcz31_3 : wr.cell? ⟨gb349,3,none⟩ = some (.int .i64 ((rd_T72 l0 x7_1).f3)) := (blk_cell BK349.out 3).trans rfl
                 have hfz31_0 := blk_frozen BK349.out 0
                 have hfz31_1 := blk_frozen BK349.out 1
                 have hfz31_2 := blk_frozen BK349.out 2
                 have hfz31_3 := blk_frozen BK349.out 3
                 go_wp2
                 go_roundg k3
                 case measure=>have := HK1.out;have := HJ4.out;have := HK3.out;omega
                 case rel=>exact ⟨(x6_3 ++ (x6_3.extract ((ji26) : Int).toNat ((wrap64 ((ji26) + 1)) : Int).toNat)),(wrap64 (x9_3 + 1)),(by first|rfl|(simp;done)|(simp only [← hji26] <;> (first|rfl|simp))|(simp [*];done)),q4_,H',⟨by have := HK1.out;have := HJ4.out;have := HK3.out;omega⟩,⟨q82_⟩,⟨q40_⟩⟩
                ·rw [if_neg c30] at H
                 exact absurd H (by simp)
               ·rw [if_neg c29] at H
                exact absurd H (by simp)
              ·rw [if_neg c28] at H
               exact absurd H (by simp)
             ·rw [if_neg c27] at H
              exact absurd H (by simp)
            ·rw [if_neg c25] at H
             have c25b0 : decide (x9_3 < ((rd_T72 l0 x7_1).f3)) = false := decide_eq_false c25
             clear c25
             have H' := Aside0.mk H
             clear H
             have hcz32_0 : wr.cell? ⟨gb349,0,none⟩ = some (.bool ((rd_T72 l0 x7_1).f0)) := (blk_cell BK349.out 0).trans rfl
             have hcz32_1 : wr.cell? ⟨gb349,1,none⟩ = some (.string ((rd_T72 l0 x7_1).f1)) := (blk_cell BK349.out 1).trans rfl
             have hcz32_2 : wr.cell? ⟨gb349,2,none⟩ = some (.int .i64 ((rd_T72 l0 x7_1).f2)) := (blk_cell BK349.out 2).trans rfl
             have hcz32_3 : wr.cell? ⟨gb349,3,none⟩ = some (.int .i64 ((rd_T72 l0 x7_1).f3)) := (blk_cell BK349.out 3).trans rfl
             have hfz32_0 := blk_frozen BK349.out 0
             have hfz32_1 := blk_frozen BK349.out 1
             have hfz32_2 := blk_frozen BK349.out 2
             have hfz32_3 := blk_frozen BK349.out 3
             go_wp2
             go_roundg k3
             case measure=>have := HK1.out;have := HJ4.out;have := HK3.out;omega
             case rel=>exact ⟨(x6_3),(wrap64 (x7_1 + 1)),q4_,q4_,H',⟨by have := HK1.out;have := HJ4.out;have := HK3.out;omega⟩,⟨q40_⟩⟩
         ·rw [if_neg c23] at H
          exact absurd H (by simp)
    ·rw [if_neg c4] at H
     exact absurd H (by simp)
   ·rw [if_neg c3] at H
    have c3b0 : decide (x7_1 < (l0.length : Int)) = false := decide_eq_false c3
    clear c3
    simp only [Option.some.injEq,Prod.mk.injEq] at H
    obtain ⟨rfl,rfl⟩ := H
    go_wp2
    go_ret2
    exact ⟨q1_,bl_⟩

end Go.Proofs.Ythcjcmgdblhhfaa.PV

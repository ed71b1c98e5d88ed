/- The machine side of these statements: what each Go function computes as a plain function, and that its call computes just that. Written by a program of mine (wip/drive.py). No conditions. -/
import Derived.Test.YtbedpnklnamnhaaDoorPGx0
import Derived.Test.YtbedpnklnamnhaaDoorPGx3
namespace Go.Proofs.YtbedpnklnamnhaaDoor.PG
open Go.RowKit Go.Proofs.YtbedpnklnamnhaaDoorW.PrintWords Go.Proofs.YtbedpnklnamnhaaDoorW.PrintLast Go.Proofs.YtbedpnklnamnhaaDoorW.PrintMore
attribute [local go_sem] max2_int min2_int max_two min_two max_three min_three max_four min_four   -- for this text's walks alone
set_option linter.unusedVariables false
set_option linter.unusedSimpArgs false

/-! ### series_May: function 16 -/
def series_May.l0 : Nat → List (S40) → List (S40) → Int → Int → Option (Bool)
 | 0,_,_,_,_=>none
 | k + 1,x0,x5,x6,x7=>if x7 < x6 then (if 0 ≤ x7 then (if x7 < (x5.length : Int) then ((series_mayTime.f ((rd_T40 x5 x7).f0)).bind fun t103=>(if t103 = true then (if x7 > 0 then (if 0 ≤ (wrap64 (x7 - 1)) then (if (wrap64 (x7 - 1)) < (x0.length : Int) then (if ((rd_T40 x5 x7).f0) ≤ ((rd_T40 x0 (wrap64 (x7 - 1))).f0) then (some false) else (series_May.l0 k x0 x5 x6 (wrap64 (x7 + 1)))) else (none)) else (none)) else (series_May.l0 k x0 x5 x6 (wrap64 (x7 + 1)))) else (some false))) else (none)) else (none)) else (some true)
def series_May.f (k : Nat) (l0 : List (S40)) : Option (Bool) := series_May.l0 k l0 l0 (l0.length : Int) 0
theorem series_May.mono_l : ∀ k, (∀ y0 y1 y2 y3, LeO (series_May.l0 k y0 y1 y2 y3) (series_May.l0 (k + 1) y0 y1 y2 y3))
 | 0=>fun _ _ _ _ r h=>by simp [series_May.l0] at h
 | k + 1=>by
  have ih0 := series_May.mono_l k
  ·intro y0 y1 y2 y3
   unfold series_May.l0
   repeat' first
   | (with_reducible exact ih0 _ _ _ _)
   | (with_reducible exact LeO.refl _)
   | (with_reducible exact LeO.none _)
   | (with_reducible refine LeO.ite ?_ ?_)
   | (with_reducible refine LeO.bind ?_ (fun _=>?_))
   | exact ih0 _ _ _ _
   | exact LeO.none _
   | refine LeO.ite ?_ ?_
   | refine LeO.bind ?_ (fun _=>?_)
theorem series_May.mono : ∀ a0 k, LeO (series_May.f k a0) (series_May.f (k + 1) a0) := by
 intro a0 k
 have ih0 := series_May.mono_l k
 unfold series_May.f
 repeat' first
   | (with_reducible exact ih0 _ _ _ _)
   | (with_reducible exact LeO.refl _)
   | (with_reducible exact LeO.none _)
   | (with_reducible refine LeO.ite ?_ ?_)
   | (with_reducible refine LeO.bind ?_ (fun _=>?_))
   | exact ih0 _ _ _ _
   | exact LeO.none _
   | refine LeO.ite ?_ ?_
   | refine LeO.bind ?_ (fun _=>?_)
set_option maxHeartbeats 8000000 in
set_option maxRecDepth 100000 in
theorem series_May.calls (k : Nat) (A0 : Option Addr) (c0 : Nat) (l0 : List (S40)) (r : Bool) (w : World) (hr0 : Kd.C k40 w A0 l0.length l0) (hc0 : l0.length ≤ c0) (h : series_May.f k l0 = some r) :
  Calls Tryd.prog 16 #[.slice A0 l0.length c0] w fun e w'=>e = .returned (.bool r) ∧ Below w.heap.size w w' := by
 have hu40 := Tryd.underlying40
 have HR0 := Aside0.mk hr0
 have HC0 := Aside0.mk hc0
 clear hr0 hc0
 have HB := Aside0.mk (Below.refl w.heap.size w)
 have H : (series_May.l0 k l0 l0 (l0.length : Int) 0) = some r := h
 clear h
 have H' := Aside0.mk H
 clear H
 go_enter Tryd.func16,Tryd.ntmps16
 go_wp2
 repeat (go_quiet (fail);try go_wp2)
 go_loopg [7] k (fun kq v7 w'=>∃ (x7_1 : Int),v7 = .int .i64 x7_1 ∧ Aside0 (series_May.l0 kq l0 l0 (l0.length : Int) x7_1 = some r) ∧ Aside0 (kq ≤ k) ∧ Aside0 (Below w.heap.size w w'))
 case atStart=>exact ⟨(0),q34_,H',⟨Nat.le_refl _⟩,⟨bl_⟩⟩
 case round =>
  clear H'
  try clear c1
  obtain ⟨x7_1,rfl,HA,HK1,HB⟩ := hrel
  cases gk with
  | zero=>exact absurd HA.out (by simp [series_May.l0])
  | succ k1 =>
   have H := HA.out
   clear HA
   simp only [series_May.l0] at H
   by_cases c2 : x7_1 < (l0.length : Int)
   ·rw [if_pos c2] at H
    have c2b0 : decide (x7_1 < (l0.length : Int)) = true := decide_eq_true c2
    clear c2
    by_cases c3 : 0 ≤ x7_1
    ·rw [if_pos c3] at H
     have c3b0 : decide (0 ≤ x7_1) = true := decide_eq_true c3
     clear c3
     by_cases c4 : x7_1 < (l0.length : Int)
     ·rw [if_pos c4] at H
      have c4b0 : decide (x7_1 < (l0.length : Int)) = true := decide_eq_true c4
      clear c4
      replace H := Option.bind_eq_some_iff.mp H
      obtain ⟨t103,A50,H⟩ := H
      replace H : (if t103 = true then (if x7_1 > 0 then (if 0 ≤ (wrap64 (x7_1 - 1)) then (if (wrap64 (x7_1 - 1)) < (l0.length : Int) then (if ((rd_T40 l0 x7_1).f0) ≤ ((rd_T40 l0 (wrap64 (x7_1 - 1))).f0) then (some false) else (series_May.l0 k1 l0 l0 (l0.length : Int) (wrap64 (x7_1 + 1)))) else (none)) else (none)) else (series_May.l0 k1 l0 l0 (l0.length : Int) (wrap64 (x7_1 + 1)))) else (some false)) = some r := H
      have A5 := Aside0.mk A50
      clear A50
      by_cases c6 : t103 = true
      ·subst c6
       have H1 : (if x7_1 > 0 then (if 0 ≤ (wrap64 (x7_1 - 1)) then (if (wrap64 (x7_1 - 1)) < (l0.length : Int) then (if ((rd_T40 l0 x7_1).f0) ≤ ((rd_T40 l0 (wrap64 (x7_1 - 1))).f0) then (some false) else (series_May.l0 k1 l0 l0 (l0.length : Int) (wrap64 (x7_1 + 1)))) else (none)) else (none)) else (series_May.l0 k1 l0 l0 (l0.length : Int) (wrap64 (x7_1 + 1)))) = some r := by rw [if_pos rfl] at H;exact H
       clear H
       have H := H1
       clear H1
       by_cases c7 : x7_1 > 0
       ·rw [if_pos c7] at H
        have c7b0 : decide (0 < x7_1) = true := decide_eq_true c7
        clear c7
        obtain ⟨ji8,hji8⟩ : ∃ j_ : Int,(wrap64 (x7_1 - 1)) = j_ := ⟨_,rfl⟩
        replace H : (if 0 ≤ (ji8) then (if (ji8) < (l0.length : Int) then (if ((rd_T40 l0 x7_1).f0) ≤ ((rd_T40 l0 (ji8)).f0) then (some false) else (series_May.l0 k1 l0 l0 (l0.length : Int) (wrap64 (x7_1 + 1)))) else (none)) else (none)) = some r := by first|(rw [hji8] at H;exact H)|(simp only [hji8] at H ⊢;exact H)
        (try rw [hji8] at A5)
        have hji8w : (IntKind.i64.wrap (x7_1 - 1)) = ji8 := (i64_w _).trans hji8
        by_cases c9 : 0 ≤ (ji8)
        ·rw [if_pos c9] at H
         have c9b0 : decide (0 ≤ (ji8)) = true := decide_eq_true c9
         clear c9
         by_cases c10 : (ji8) < (l0.length : Int)
         ·rw [if_pos c10] at H
          have c10b0 : decide ((ji8) < (l0.length : Int)) = true := decide_eq_true c10
          clear c10
          by_cases c11 : ((rd_T40 l0 x7_1).f0) ≤ ((rd_T40 l0 (ji8)).f0)
          ·rw [if_pos c11] at H
           have c11b0 : decide (((rd_T40 l0 x7_1).f0) ≤ ((rd_T40 l0 (ji8)).f0)) = true := decide_eq_true c11
           clear c11
           obtain rfl := Option.some.inj H
           have p101 : 0 ≤ (x7_1 : Int) := of_decide_eq_true q19_
           have q101 : x7_1 < (l0.length : Int) := of_decide_eq_true q19_
           obtain ⟨ad101,e101,hx101_0,hx101_1⟩ := at_T40 HR0.out x7_1 p101 q101
           cases e101
           replace hx101_0 := (HB.out.cell (World.block_lt_of_cell? w _ hx101_0)).trans hx101_0
           replace hx101_1 := (HB.out.cell (World.block_lt_of_cell? w _ hx101_1)).trans hx101_1
           replace p101 := eq_true p101
           replace q101 := eq_true q101
           go_wp2_with (first|((with_reducible refine gate_dst (N := 4) rfl ?_);refine box_event ?hg (N := 4) ?hd (cs := #[.int .i64 0,.int .u64 0]) (t := 40) ?hr ?_;(case hd=>rfl);(case hg=>rfl);(case hr=>first|(go_simp;done)|(go_simp;rfl)|(go_simp;simp [my_u8w];done));intro gb102 hg w12 hbox hb;have n0_ := Aside0.mk (below_step (bl_) hb);have n1_ := Aside0.mk (hbox);have n2_ := Aside0.mk ((by rw [hg];exact (below_size (bl_)) : w.heap.size ≤ gb102));have n3_ := Aside0.mk ((by rw [hg];exact (below_size (bl_)) : w.heap.size ≤ gb102));clear HB;have HB := n0_;have BK102 := n1_;have GW102 := n2_;have GE102 := n3_;clear n0_ n1_ n2_ n3_;clear hb hbox hg;have hcz13_0 : w12.cell? ⟨gb102,0,none⟩ = some (.int .i64 0) := (blk_cell BK102.out 0).trans rfl;have hcz13_1 : w12.cell? ⟨gb102,1,none⟩ = some (.int .u64 0) := (blk_cell BK102.out 1).trans rfl;have hfz13_0 := blk_frozen BK102.out 0;have hfz13_1 := blk_frozen BK102.out 1)|(go_at_call 27;(with_reducible refine (series_mayTime.calls ((rd_T40 l0 x7_1).f0) true _ A5.out).mono ?_);rintro e w' ⟨rfl,⟨nd,rfl⟩⟩;(try first|exact ⟨rfl,_,World.drewN_drewN _ _ _⟩|exact ⟨rfl,_,Eq.trans (World.drewN_drewN _ _ _) (congrArg (World.drewN _) (Nat.add_assoc _ _ _))⟩);have p104 : 0 ≤ ((ji8) : Int) := of_decide_eq_true q19_;have q104 : (ji8) < (l0.length : Int) := of_decide_eq_true q19_;obtain ⟨ad104,e104,hx104_0,hx104_1⟩ := at_T40 HR0.out (ji8) p104 q104;obtain rfl : ad101 = ad104 := (by injection e104);have hn104_0 : ad101.block ≠ gb102 := Nat.ne_of_lt (Nat.lt_of_lt_of_le q46_ GW102.out);have hn104_1 : ad101.block ≠ gb102 := Nat.ne_of_lt (Nat.lt_of_lt_of_le q46_ GW102.out);replace hx104_0 := (HB.out.cell (World.block_lt_of_cell? w _ hx104_0)).trans hx104_0;replace hx104_1 := (HB.out.cell (World.block_lt_of_cell? w _ hx104_1)).trans hx104_1;replace hx104_0 := (cell_far (p := ⟨gb102,0,none⟩) q42_ (.int .i64 ((rd_T40 l0 x7_1).f0))).trans hx104_0;replace hx104_1 := (cell_far (p := ⟨gb102,0,none⟩) q42_ (.int .i64 ((rd_T40 l0 x7_1).f0))).trans hx104_1;replace hx104_0 := (cell_far (p := ⟨gb102,1,none⟩) q43_ (.int .u64 ((rd_T40 l0 x7_1).f1))).trans hx104_0;replace hx104_1 := (cell_far (p := ⟨gb102,1,none⟩) q43_ (.int .u64 ((rd_T40 l0 x7_1).f1))).trans hx104_1;(try have hy104_0 := fun (n_ : Nat)=>(show ((((w12.drewN n_).setCell ⟨gb102,0,none⟩ (.int .i64 ((rd_T40 l0 x7_1).f0))).setCell ⟨gb102,1,none⟩ (.int .u64 ((rd_T40 l0 x7_1).f1)))).cell? _ = some _ from hx104_0));(try have hy104_1 := fun (n_ : Nat)=>(show ((((w12.drewN n_).setCell ⟨gb102,0,none⟩ (.int .i64 ((rd_T40 l0 x7_1).f0))).setCell ⟨gb102,1,none⟩ (.int .u64 ((rd_T40 l0 x7_1).f1)))).cell? _ = some _ from hx104_1));clear hn104_0;clear hn104_1;replace p104 := eq_true p104;replace q104 := eq_true q104))
           repeat (go_quiet (first|((with_reducible refine gate_dst (N := 4) rfl ?_);refine box_event ?hg (N := 4) ?hd (cs := #[.int .i64 0,.int .u64 0]) (t := 40) ?hr ?_;(case hd=>rfl);(case hg=>rfl);(case hr=>first|(go_simp;done)|(go_simp;rfl)|(go_simp;simp [my_u8w];done));intro gb102 hg w12 hbox hb;have n0_ := Aside0.mk (below_step (bl_) hb);have n1_ := Aside0.mk (hbox);have n2_ := Aside0.mk ((by rw [hg];exact (below_size (bl_)) : w.heap.size ≤ gb102));have n3_ := Aside0.mk ((by rw [hg];exact (below_size (bl_)) : w.heap.size ≤ gb102));clear HB;have HB := n0_;have BK102 := n1_;have GW102 := n2_;have GE102 := n3_;clear n0_ n1_ n2_ n3_;clear hb hbox hg;have hcz13_0 : w12.cell? ⟨gb102,0,none⟩ = some (.int .i64 0) := (blk_cell BK102.out 0).trans rfl;have hcz13_1 : w12.cell? ⟨gb102,1,none⟩ = some (.int .u64 0) := (blk_cell BK102.out 1).trans rfl;have hfz13_0 := blk_frozen BK102.out 0;have hfz13_1 := blk_frozen BK102.out 1)|(go_at_call 27;(with_reducible refine (series_mayTime.calls ((rd_T40 l0 x7_1).f0) true _ A5.out).mono ?_);rintro e w' ⟨rfl,⟨nd,rfl⟩⟩;(try first|exact ⟨rfl,_,World.drewN_drewN _ _ _⟩|exact ⟨rfl,_,Eq.trans (World.drewN_drewN _ _ _) (congrArg (World.drewN _) (Nat.add_assoc _ _ _))⟩);have p104 : 0 ≤ ((ji8) : Int) := of_decide_eq_true q19_;have q104 : (ji8) < (l0.length : Int) := of_decide_eq_true q19_;obtain ⟨ad104,e104,hx104_0,hx104_1⟩ := at_T40 HR0.out (ji8) p104 q104;obtain rfl : ad101 = ad104 := (by injection e104);have hn104_0 : ad101.block ≠ gb102 := Nat.ne_of_lt (Nat.lt_of_lt_of_le q46_ GW102.out);have hn104_1 : ad101.block ≠ gb102 := Nat.ne_of_lt (Nat.lt_of_lt_of_le q46_ GW102.out);replace hx104_0 := (HB.out.cell (World.block_lt_of_cell? w _ hx104_0)).trans hx104_0;replace hx104_1 := (HB.out.cell (World.block_lt_of_cell? w _ hx104_1)).trans hx104_1;replace hx104_0 := (cell_far (p := ⟨gb102,0,none⟩) q42_ (.int .i64 ((rd_T40 l0 x7_1).f0))).trans hx104_0;replace hx104_1 := (cell_far (p := ⟨gb102,0,none⟩) q42_ (.int .i64 ((rd_T40 l0 x7_1).f0))).trans hx104_1;replace hx104_0 := (cell_far (p := ⟨gb102,1,none⟩) q43_ (.int .u64 ((rd_T40 l0 x7_1).f1))).trans hx104_0;replace hx104_1 := (cell_far (p := ⟨gb102,1,none⟩) q43_ (.int .u64 ((rd_T40 l0 x7_1).f1))).trans hx104_1;(try have hy104_0 := fun (n_ : Nat)=>(show ((((w12.drewN n_).setCell ⟨gb102,0,none⟩ (.int .i64 ((rd_T40 l0 x7_1).f0))).setCell ⟨gb102,1,none⟩ (.int .u64 ((rd_T40 l0 x7_1).f1)))).cell? _ = some _ from hx104_0));(try have hy104_1 := fun (n_ : Nat)=>(show ((((w12.drewN n_).setCell ⟨gb102,0,none⟩ (.int .i64 ((rd_T40 l0 x7_1).f0))).setCell ⟨gb102,1,none⟩ (.int .u64 ((rd_T40 l0 x7_1).f1)))).cell? _ = some _ from hx104_1));clear hn104_0;clear hn104_1;replace p104 := eq_true p104;replace q104 := eq_true q104));try go_wp2_with (first|((with_reducible refine gate_dst (N := 4) rfl ?_);refine box_event ?hg (N := 4) ?hd (cs := #[.int .i64 0,.int .u64 0]) (t := 40) ?hr ?_;(case hd=>rfl);(case hg=>rfl);(case hr=>first|(go_simp;done)|(go_simp;rfl)|(go_simp;simp [my_u8w];done));intro gb102 hg w12 hbox hb;have n0_ := Aside0.mk (below_step (bl_) hb);have n1_ := Aside0.mk (hbox);have n2_ := Aside0.mk ((by rw [hg];exact (below_size (bl_)) : w.heap.size ≤ gb102));have n3_ := Aside0.mk ((by rw [hg];exact (below_size (bl_)) : w.heap.size ≤ gb102));clear HB;have HB := n0_;have BK102 := n1_;have GW102 := n2_;have GE102 := n3_;clear n0_ n1_ n2_ n3_;clear hb hbox hg;have hcz13_0 : w12.cell? ⟨gb102,0,none⟩ = some (.int .i64 0) := (blk_cell BK102.out 0).trans rfl;have hcz13_1 : w12.cell? ⟨gb102,1,none⟩ = some (.int .u64 0) := (blk_cell BK102.out 1).trans rfl;have hfz13_0 := blk_frozen BK102.out 0;have hfz13_1 := blk_frozen BK102.out 1)|(go_at_call 27;(with_reducible refine (series_mayTime.calls ((rd_T40 l0 x7_1).f0) true _ A5.out).mono ?_);rintro e w' ⟨rfl,⟨nd,rfl⟩⟩;(try first|exact ⟨rfl,_,World.drewN_drewN _ _ _⟩|exact ⟨rfl,_,Eq.trans (World.drewN_drewN _ _ _) (congrArg (World.drewN _) (Nat.add_assoc _ _ _))⟩);have p104 : 0 ≤ ((ji8) : Int) := of_decide_eq_true q19_;have q104 : (ji8) < (l0.length : Int) := of_decide_eq_true q19_;obtain ⟨ad104,e104,hx104_0,hx104_1⟩ := at_T40 HR0.out (ji8) p104 q104;obtain rfl : ad101 = ad104 := (by injection e104);have hn104_0 : ad101.block ≠ gb102 := Nat.ne_of_lt (Nat.lt_of_lt_of_le q46_ GW102.out);have hn104_1 : ad101.block ≠ gb102 := Nat.ne_of_lt (Nat.lt_of_lt_of_le q46_ GW102.out);replace hx104_0 := (HB.out.cell (World.block_lt_of_cell? w _ hx104_0)).trans hx104_0;replace hx104_1 := (HB.out.cell (World.block_lt_of_cell? w _ hx104_1)).trans hx104_1;replace hx104_0 := (cell_far (p := ⟨gb102,0,none⟩) q42_ (.int .i64 ((rd_T40 l0 x7_1).f0))).trans hx104_0;replace hx104_1 := (cell_far (p := ⟨gb102,0,none⟩) q42_ (.int .i64 ((rd_T40 l0 x7_1).f0))).trans hx104_1;replace hx104_0 := (cell_far (p := ⟨gb102,1,none⟩) q43_ (.int .u64 ((rd_T40 l0 x7_1).f1))).trans hx104_0;replace hx104_1 := (cell_far (p := ⟨gb102,1,none⟩) q43_ (.int .u64 ((rd_T40 l0 x7_1).f1))).trans hx104_1;(try have hy104_0 := fun (n_ : Nat)=>(show ((((w12.drewN n_).setCell ⟨gb102,0,none⟩ (.int .i64 ((rd_T40 l0 x7_1).f0))).setCell ⟨gb102,1,none⟩ (.int .u64 ((rd_T40 l0 x7_1).f1)))).cell? _ = some _ from hx104_0));(try have hy104_1 := fun (n_ : Nat)=>(show ((((w12.drewN n_).setCell ⟨gb102,0,none⟩ (.int .i64 ((rd_T40 l0 x7_1).f0))).setCell ⟨gb102,1,none⟩ (.int .u64 ((rd_T40 l0 x7_1).f1)))).cell? _ = some _ from hx104_1));clear hn104_0;clear hn104_1;replace p104 := eq_true p104;replace q104 := eq_true q104)))
           go_ret
           exact ⟨q83_,q69_⟩
          ·rw [if_neg c11] at H
           have c11b0 : decide (((rd_T40 l0 x7_1).f0) ≤ ((rd_T40 l0 (ji8)).f0)) = false := decide_eq_false c11
           clear c11
           have H' := Aside0.mk H
           clear H
           have p101 : 0 ≤ (x7_1 : Int) := of_decide_eq_true q19_
           have q101 : x7_1 < (l0.length : Int) := of_decide_eq_true q19_
           obtain ⟨ad101,e101,hx101_0,hx101_1⟩ := at_T40 HR0.out x7_1 p101 q101
           cases e101
           replace hx101_0 := (HB.out.cell (World.block_lt_of_cell? w _ hx101_0)).trans hx101_0
           replace hx101_1 := (HB.out.cell (World.block_lt_of_cell? w _ hx101_1)).trans hx101_1
           replace p101 := eq_true p101
           replace q101 := eq_true q101
           go_wp2_with (first|((with_reducible refine gate_dst (N := 4) rfl ?_);refine box_event ?hg (N := 4) ?hd (cs := #[.int .i64 0,.int .u64 0]) (t := 40) ?hr ?_;(case hd=>rfl);(case hg=>rfl);(case hr=>first|(go_simp;done)|(go_simp;rfl)|(go_simp;simp [my_u8w];done));intro gb102 hg w14 hbox hb;have n0_ := Aside0.mk (below_step (bl_) hb);have n1_ := Aside0.mk (hbox);have n2_ := Aside0.mk ((by rw [hg];exact (below_size (bl_)) : w.heap.size ≤ gb102));have n3_ := Aside0.mk ((by rw [hg];exact (below_size (bl_)) : w.heap.size ≤ gb102));clear HB;have HB := n0_;have BK102 := n1_;have GW102 := n2_;have GE102 := n3_;clear n0_ n1_ n2_ n3_;clear hb hbox hg;have hcz15_0 : w14.cell? ⟨gb102,0,none⟩ = some (.int .i64 0) := (blk_cell BK102.out 0).trans rfl;have hcz15_1 : w14.cell? ⟨gb102,1,none⟩ = some (.int .u64 0) := (blk_cell BK102.out 1).trans rfl;have hfz15_0 := blk_frozen BK102.out 0;have hfz15_1 := blk_frozen BK102.out 1)|(go_at_call 27;(with_reducible refine (series_mayTime.calls ((rd_T40 l0 x7_1).f0) true _ A5.out).mono ?_);rintro e w' ⟨rfl,⟨nd,rfl⟩⟩;(try first|exact ⟨rfl,_,World.drewN_drewN _ _ _⟩|exact ⟨rfl,_,Eq.trans (World.drewN_drewN _ _ _) (congrArg (World.drewN _) (Nat.add_assoc _ _ _))⟩);have p104 : 0 ≤ ((ji8) : Int) := of_decide_eq_true q19_;have q104 : (ji8) < (l0.length : Int) := of_decide_eq_true q19_;obtain ⟨ad104,e104,hx104_0,hx104_1⟩ := at_T40 HR0.out (ji8) p104 q104;obtain rfl : ad101 = ad104 := (by injection e104);have hn104_0 : ad101.block ≠ gb102 := Nat.ne_of_lt (Nat.lt_of_lt_of_le q46_ GW102.out);have hn104_1 : ad101.block ≠ gb102 := Nat.ne_of_lt (Nat.lt_of_lt_of_le q46_ GW102.out);replace hx104_0 := (HB.out.cell (World.block_lt_of_cell? w _ hx104_0)).trans hx104_0;replace hx104_1 := (HB.out.cell (World.block_lt_of_cell? w _ hx104_1)).trans hx104_1;replace hx104_0 := (cell_far (p := ⟨gb102,0,none⟩) q42_ (.int .i64 ((rd_T40 l0 x7_1).f0))).trans hx104_0;replace hx104_1 := (cell_far (p := ⟨gb102,0,none⟩) q42_ (.int .i64 ((rd_T40 l0 x7_1).f0))).trans hx104_1;replace hx104_0 := (cell_far (p := ⟨gb102,1,none⟩) q43_ (.int .u64 ((rd_T40 l0 x7_1).f1))).trans hx104_0;replace hx104_1 := (cell_far (p := ⟨gb102,1,none⟩) q43_ (.int .u64 ((rd_T40 l0 x7_1).f1))).trans hx104_1;(try have hy104_0 := fun (n_ : Nat)=>(show ((((w14.drewN n_).setCell ⟨gb102,0,none⟩ (.int .i64 ((rd_T40 l0 x7_1).f0))).setCell ⟨gb102,1,none⟩ (.int .u64 ((rd_T40 l0 x7_1).f1)))).cell? _ = some _ from hx104_0));(try have hy104_1 := fun (n_ : Nat)=>(show ((((w14.drewN n_).setCell ⟨gb102,0,none⟩ (.int .i64 ((rd_T40 l0 x7_1).f0))).setCell ⟨gb102,1,none⟩ (.int .u64 ((rd_T40 l0 x7_1).f1)))).cell? _ = some _ from hx104_1));clear hn104_0;clear hn104_1;replace p104 := eq_true p104;replace q104 := eq_true q104))
           repeat (go_quiet (first|((with_reducible refine gate_dst (N := 4) rfl ?_);refine box_event ?hg (N := 4) ?hd (cs := #[.int .i64 0,.int .u64 0]) (t := 40) ?hr ?_;(case hd=>rfl);(case hg=>rfl);(case hr=>first|(go_simp;done)|(go_simp;rfl)|(go_simp;simp [my_u8w];done));intro gb102 hg w14 hbox hb;have n0_ := Aside0.mk (below_step (bl_) hb);have n1_ := Aside0.mk (hbox);have n2_ := Aside0.mk ((by rw [hg];exact (below_size (bl_)) : w.heap.size ≤ gb102));have n3_ := Aside0.mk ((by rw [hg];exact (below_size (bl_)) : w.heap.size ≤ gb102));clear HB;have HB := n0_;have BK102 := n1_;have GW102 := n2_;have GE102 := n3_;clear n0_ n1_ n2_ n3_;clear hb hbox hg;have hcz15_0 : w14.cell? ⟨gb102,0,none⟩ = some (.int .i64 0) := (blk_cell BK102.out 0).trans rfl;have hcz15_1 : w14.cell? ⟨gb102,1,none⟩ = some (.int .u64 0) := (blk_cell BK102.out 1).trans rfl;have hfz15_0 := blk_frozen BK102.out 0;have hfz15_1 := blk_frozen BK102.out 1)|(go_at_call 27;(with_reducible refine (series_mayTime.calls ((rd_T40 l0 x7_1).f0) true _ A5.out).mono ?_);rintro e w' ⟨rfl,⟨nd,rfl⟩⟩;(try first|exact ⟨rfl,_,World.drewN_drewN _ _ _⟩|exact ⟨rfl,_,Eq.trans (World.drewN_drewN _ _ _) (congrArg (World.drewN _) (Nat.add_assoc _ _ _))⟩);have p104 : 0 ≤ ((ji8) : Int) := of_decide_eq_true q19_;have q104 : (ji8) < (l0.length : Int) := of_decide_eq_true q19_;obtain ⟨ad104,e104,hx104_0,hx104_1⟩ := at_T40 HR0.out (ji8) p104 q104;obtain rfl : ad101 = ad104 := (by injection e104);have hn104_0 : ad101.block ≠ gb102 := Nat.ne_of_lt (Nat.lt_of_lt_of_le q46_ GW102.out);have hn104_1 : ad101.block ≠ gb102 := Nat.ne_of_lt (Nat.lt_of_lt_of_le q46_ GW102.out);replace hx104_0 := (HB.out.cell (World.block_lt_of_cell? w _ hx104_0)).trans hx104_0;replace hx104_1 := (HB.out.cell (World.block_lt_of_cell? w _ hx104_1)).trans hx104_1;replace hx104_0 := (cell_far (p := ⟨gb102,0,none⟩) q42_ (.int .i64 ((rd_T40 l0 x7_1).f0))).trans hx104_0;replace hx104_1 := (cell_far (p := ⟨gb102,0,none⟩) q42_ (.int .i64 ((rd_T40 l0 x7_1).f0))).trans hx104_1;replace hx104_0 := (cell_far (p := ⟨gb102,1,none⟩) q43_ (.int .u64 ((rd_T40 l0 x7_1).f1))).trans hx104_0;replace hx104_1 := (cell_far (p := ⟨gb102,1,none⟩) q43_ (.int .u64 ((rd_T40 l0 x7_1).f1))).trans hx104_1;(try have hy104_0 := fun (n_ : Nat)=>(show ((((w14.drewN n_).setCell ⟨gb102,0,none⟩ (.int .i64 ((rd_T40 l0 x7_1).f0))).setCell ⟨gb102,1,none⟩ (.int .u64 ((rd_T40 l0 x7_1).f1)))).cell? _ = some _ from hx104_0));(try have hy104_1 := fun (n_ : Nat)=>(show ((((w14.drewN n_).setCell ⟨gb102,0,none⟩ (.int .i64 ((rd_T40 l0 x7_1).f0))).setCell ⟨gb102,1,none⟩ (.int .u64 ((rd_T40 l0 x7_1).f1)))).cell? _ = some _ from hx104_1));clear hn104_0;clear hn104_1;replace p104 := eq_true p104;replace q104 := eq_true q104));try go_wp2_with (first|((with_reducible refine gate_dst (N := 4) rfl ?_);refine box_event ?hg (N := 4) ?hd (cs := #[.int .i64 0,.int .u64 0]) (t := 40) ?hr ?_;(case hd=>rfl);(case hg=>rfl);(case hr=>first|(go_simp;done)|(go_simp;rfl)|(go_simp;simp [my_u8w];done));intro gb102 hg w14 hbox hb;have n0_ := Aside0.mk (below_step (bl_) hb);have n1_ := Aside0.mk (hbox);have n2_ := Aside0.mk ((by rw [hg];exact (below_size (bl_)) : w.heap.size ≤ gb102));have n3_ := Aside0.mk ((by rw [hg];exact (below_size (bl_)) : w.heap.size ≤ gb102));clear HB;have HB := n0_;have BK102 := n1_;have GW102 := n2_;have GE102 := n3_;clear n0_ n1_ n2_ n3_;clear hb hbox hg;have hcz15_0 : w14.cell? ⟨gb102,0,none⟩ = some (.int .i64 0) := (blk_cell BK102.out 0).trans rfl;have hcz15_1 : w14.cell? ⟨gb102,1,none⟩ = some (.int .u64 0) := (blk_cell BK102.out 1).trans rfl;have hfz15_0 := blk_frozen BK102.out 0;have hfz15_1 := blk_frozen BK102.out 1)|(go_at_call 27;(with_reducible refine (series_mayTime.calls ((rd_T40 l0 x7_1).f0) true _ A5.out).mono ?_);rintro e w' ⟨rfl,⟨nd,rfl⟩⟩;(try first|exact ⟨rfl,_,World.drewN_drewN _ _ _⟩|exact ⟨rfl,_,Eq.trans (World.drewN_drewN _ _ _) (congrArg (World.drewN _) (Nat.add_assoc _ _ _))⟩);have p104 : 0 ≤ ((ji8) : Int) := of_decide_eq_true q19_;have q104 : (ji8) < (l0.length : Int) := of_decide_eq_true q19_;obtain ⟨ad104,e104,hx104_0,hx104_1⟩ := at_T40 HR0.out (ji8) p104 q104;obtain rfl : ad101 = ad104 := (by injection e104);have hn104_0 : ad101.block ≠ gb102 := Nat.ne_of_lt (Nat.lt_of_lt_of_le q46_ GW102.out);have hn104_1 : ad101.block ≠ gb102 := Nat.ne_of_lt (Nat.lt_of_lt_of_le q46_ GW102.out);replace hx104_0 := (HB.out.cell (World.block_lt_of_cell? w _ hx104_0)).trans hx104_0;replace hx104_1 := (HB.out.cell (World.block_lt_of_cell? w _ hx104_1)).trans hx104_1;replace hx104_0 := (cell_far (p := ⟨gb102,0,none⟩) q42_ (.int .i64 ((rd_T40 l0 x7_1).f0))).trans hx104_0;replace hx104_1 := (cell_far (p := ⟨gb102,0,none⟩) q42_ (.int .i64 ((rd_T40 l0 x7_1).f0))).trans hx104_1;replace hx104_0 := (cell_far (p := ⟨gb102,1,none⟩) q43_ (.int .u64 ((rd_T40 l0 x7_1).f1))).trans hx104_0;replace hx104_1 := (cell_far (p := ⟨gb102,1,none⟩) q43_ (.int .u64 ((rd_T40 l0 x7_1).f1))).trans hx104_1;(try have hy104_0 := fun (n_ : Nat)=>(show ((((w14.drewN n_).setCell ⟨gb102,0,none⟩ (.int .i64 ((rd_T40 l0 x7_1).f0))).setCell ⟨gb102,1,none⟩ (.int .u64 ((rd_T40 l0 x7_1).f1)))).cell? _ = some _ from hx104_0));(try have hy104_1 := fun (n_ : Nat)=>(show ((((w14.drewN n_).setCell ⟨gb102,0,none⟩ (.int .i64 ((rd_T40 l0 x7_1).f0))).setCell ⟨gb102,1,none⟩ (.int .u64 ((rd_T40 l0 x7_1).f1)))).cell? _ = some _ from hx104_1));clear hn104_0;clear hn104_1;replace p104 := eq_true p104;replace q104 := eq_true q104)))
           go_roundg k1
           case measure=>have := HK1.out;omega
           case rel=>exact ⟨(wrap64 (x7_1 + 1)),q34_,H',⟨q84_⟩,⟨q69_⟩⟩
         ·rw [if_neg c10] at H
          exact absurd H (by simp)
        ·rw [if_neg c9] at H
         exact absurd H (by simp)
       ·rw [if_neg c7] at H
        have c7b0 : decide (0 < x7_1) = false := decide_eq_false c7
        clear c7
        have H' := Aside0.mk H
        clear H
        have p101 : 0 ≤ (x7_1 : Int) := of_decide_eq_true q19_
        have q101 : x7_1 < (l0.length : Int) := of_decide_eq_true q19_
        obtain ⟨ad101,e101,hx101_0,hx101_1⟩ := at_T40 HR0.out x7_1 p101 q101
        cases e101
        replace hx101_0 := (HB.out.cell (World.block_lt_of_cell? w _ hx101_0)).trans hx101_0
        replace hx101_1 := (HB.out.cell (World.block_lt_of_cell? w _ hx101_1)).trans hx101_1
        replace p101 := eq_true p101
        replace q101 := eq_true q101
        go_wp2_with (first|((with_reducible refine gate_dst (N := 4) rfl ?_);refine box_event ?hg (N := 4) ?hd (cs := #[.int .i64 0,.int .u64 0]) (t := 40) ?hr ?_;(case hd=>rfl);(case hg=>rfl);(case hr=>first|(go_simp;done)|(go_simp;rfl)|(go_simp;simp [my_u8w];done));intro gb102 hg w16 hbox hb;have n0_ := Aside0.mk (below_step (bl_) hb);have n1_ := Aside0.mk (hbox);have n2_ := Aside0.mk ((by rw [hg];exact (below_size (bl_)) : w.heap.size ≤ gb102));have n3_ := Aside0.mk ((by rw [hg];exact (below_size (bl_)) : w.heap.size ≤ gb102));clear HB;have HB := n0_;have BK102 := n1_;have GW102 := n2_;have GE102 := n3_;clear n0_ n1_ n2_ n3_;clear hb hbox hg;have hcz17_0 : w16.cell? ⟨gb102,0,none⟩ = some (.int .i64 0) := (blk_cell BK102.out 0).trans rfl;have hcz17_1 : w16.cell? ⟨gb102,1,none⟩ = some (.int .u64 0) := (blk_cell BK102.out 1).trans rfl;have hfz17_0 := blk_frozen BK102.out 0;have hfz17_1 := blk_frozen BK102.out 1)|(go_at_call 27;(with_reducible refine (series_mayTime.calls ((rd_T40 l0 x7_1).f0) true _ A5.out).mono ?_);rintro e w' ⟨rfl,⟨nd,rfl⟩⟩;(try first|exact ⟨rfl,_,World.drewN_drewN _ _ _⟩|exact ⟨rfl,_,Eq.trans (World.drewN_drewN _ _ _) (congrArg (World.drewN _) (Nat.add_assoc _ _ _))⟩)))
        repeat (go_quiet (first|((with_reducible refine gate_dst (N := 4) rfl ?_);refine box_event ?hg (N := 4) ?hd (cs := #[.int .i64 0,.int .u64 0]) (t := 40) ?hr ?_;(case hd=>rfl);(case hg=>rfl);(case hr=>first|(go_simp;done)|(go_simp;rfl)|(go_simp;simp [my_u8w];done));intro gb102 hg w16 hbox hb;have n0_ := Aside0.mk (below_step (bl_) hb);have n1_ := Aside0.mk (hbox);have n2_ := Aside0.mk ((by rw [hg];exact (below_size (bl_)) : w.heap.size ≤ gb102));have n3_ := Aside0.mk ((by rw [hg];exact (below_size (bl_)) : w.heap.size ≤ gb102));clear HB;have HB := n0_;have BK102 := n1_;have GW102 := n2_;have GE102 := n3_;clear n0_ n1_ n2_ n3_;clear hb hbox hg;have hcz17_0 : w16.cell? ⟨gb102,0,none⟩ = some (.int .i64 0) := (blk_cell BK102.out 0).trans rfl;have hcz17_1 : w16.cell? ⟨gb102,1,none⟩ = some (.int .u64 0) := (blk_cell BK102.out 1).trans rfl;have hfz17_0 := blk_frozen BK102.out 0;have hfz17_1 := blk_frozen BK102.out 1)|(go_at_call 27;(with_reducible refine (series_mayTime.calls ((rd_T40 l0 x7_1).f0) true _ A5.out).mono ?_);rintro e w' ⟨rfl,⟨nd,rfl⟩⟩;(try first|exact ⟨rfl,_,World.drewN_drewN _ _ _⟩|exact ⟨rfl,_,Eq.trans (World.drewN_drewN _ _ _) (congrArg (World.drewN _) (Nat.add_assoc _ _ _))⟩)));try go_wp2_with (first|((with_reducible refine gate_dst (N := 4) rfl ?_);refine box_event ?hg (N := 4) ?hd (cs := #[.int .i64 0,.int .u64 0]) (t := 40) ?hr ?_;(case hd=>rfl);(case hg=>rfl);(case hr=>first|(go_simp;done)|(go_simp;rfl)|(go_simp;simp [my_u8w];done));intro gb102 hg w16 hbox hb;have n0_ := Aside0.mk (below_step (bl_) hb);have n1_ := Aside0.mk (hbox);have n2_ := Aside0.mk ((by rw [hg];exact (below_size (bl_)) : w.heap.size ≤ gb102));have n3_ := Aside0.mk ((by rw [hg];exact (below_size (bl_)) : w.heap.size ≤ gb102));clear HB;have HB := n0_;have BK102 := n1_;have GW102 := n2_;have GE102 := n3_;clear n0_ n1_ n2_ n3_;clear hb hbox hg;have hcz17_0 : w16.cell? ⟨gb102,0,none⟩ = some (.int .i64 0) := (blk_cell BK102.out 0).trans rfl;have hcz17_1 : w16.cell? ⟨gb102,1,none⟩ = some (.int .u64 0) := (blk_cell BK102.out 1).trans rfl;have hfz17_0 := blk_frozen BK102.out 0;have hfz17_1 := blk_frozen BK102.out 1)|(go_at_call 27;(with_reducible refine (series_mayTime.calls ((rd_T40 l0 x7_1).f0) true _ A5.out).mono ?_);rintro e w' ⟨rfl,⟨nd,rfl⟩⟩;(try first|exact ⟨rfl,_,World.drewN_drewN _ _ _⟩|exact ⟨rfl,_,Eq.trans (World.drewN_drewN _ _ _) (congrArg (World.drewN _) (Nat.add_assoc _ _ _))⟩))))
        go_roundg k1
        case measure=>have := HK1.out;omega
        case rel=>exact ⟨(wrap64 (x7_1 + 1)),q34_,H',⟨q84_⟩,⟨q69_⟩⟩
      ·replace c6 := Bool.eq_false_iff.mpr c6
       subst c6
       have H1 : (some false) = some r := by rw [if_neg (show ¬ (false = true) by decide)] at H;exact H
       clear H
       have H := H1
       clear H1
       obtain rfl := Option.some.inj H
       have p101 : 0 ≤ (x7_1 : Int) := of_decide_eq_true q19_
       have q101 : x7_1 < (l0.length : Int) := of_decide_eq_true q19_
       obtain ⟨ad101,e101,hx101_0,hx101_1⟩ := at_T40 HR0.out x7_1 p101 q101
       cases e101
       replace hx101_0 := (HB.out.cell (World.block_lt_of_cell? w _ hx101_0)).trans hx101_0
       replace hx101_1 := (HB.out.cell (World.block_lt_of_cell? w _ hx101_1)).trans hx101_1
       replace p101 := eq_true p101
       replace q101 := eq_true q101
       go_wp2_with (first|((with_reducible refine gate_dst (N := 4) rfl ?_);refine box_event ?hg (N := 4) ?hd (cs := #[.int .i64 0,.int .u64 0]) (t := 40) ?hr ?_;(case hd=>rfl);(case hg=>rfl);(case hr=>first|(go_simp;done)|(go_simp;rfl)|(go_simp;simp [my_u8w];done));intro gb102 hg w18 hbox hb;have n0_ := Aside0.mk (below_step (bl_) hb);have n1_ := Aside0.mk (hbox);have n2_ := Aside0.mk ((by rw [hg];exact (below_size (bl_)) : w.heap.size ≤ gb102));have n3_ := Aside0.mk ((by rw [hg];exact (below_size (bl_)) : w.heap.size ≤ gb102));clear HB;have HB := n0_;have BK102 := n1_;have GW102 := n2_;have GE102 := n3_;clear n0_ n1_ n2_ n3_;clear hb hbox hg;have hcz19_0 : w18.cell? ⟨gb102,0,none⟩ = some (.int .i64 0) := (blk_cell BK102.out 0).trans rfl;have hcz19_1 : w18.cell? ⟨gb102,1,none⟩ = some (.int .u64 0) := (blk_cell BK102.out 1).trans rfl;have hfz19_0 := blk_frozen BK102.out 0;have hfz19_1 := blk_frozen BK102.out 1)|(go_at_call 27;(with_reducible refine (series_mayTime.calls ((rd_T40 l0 x7_1).f0) false _ A5.out).mono ?_);rintro e w' ⟨rfl,⟨nd,rfl⟩⟩;(try first|exact ⟨rfl,_,World.drewN_drewN _ _ _⟩|exact ⟨rfl,_,Eq.trans (World.drewN_drewN _ _ _) (congrArg (World.drewN _) (Nat.add_assoc _ _ _))⟩)))
       repeat (go_quiet (first|((with_reducible refine gate_dst (N := 4) rfl ?_);refine box_event ?hg (N := 4) ?hd (cs := #[.int .i64 0,.int .u64 0]) (t := 40) ?hr ?_;(case hd=>rfl);(case hg=>rfl);(case hr=>first|(go_simp;done)|(go_simp;rfl)|(go_simp;simp [my_u8w];done));intro gb102 hg w18 hbox hb;have n0_ := Aside0.mk (below_step (bl_) hb);have n1_ := Aside0.mk (hbox);have n2_ := Aside0.mk ((by rw [hg];exact (below_size (bl_)) : w.heap.size ≤ gb102));have n3_ := Aside0.mk ((by rw [hg];exact (below_size (bl_)) : w.heap.size ≤ gb102));clear HB;have HB := n0_;have BK102 := n1_;have GW102 := n2_;have GE102 := n3_;clear n0_ n1_ n2_ n3_;clear hb hbox hg;have hcz19_0 : w18.cell? ⟨gb102,0,none⟩ = some (.int .i64 0) := (blk_cell BK102.out 0).trans rfl;have hcz19_1 : w18.cell? ⟨gb102,1,none⟩ = some (.int .u64 0) := (blk_cell BK102.out 1).trans rfl;have hfz19_0 := blk_frozen BK102.out 0;have hfz19_1 := blk_frozen BK102.out 1)|(go_at_call 27;(with_reducible refine (series_mayTime.calls ((rd_T40 l0 x7_1).f0) false _ A5.out).mono ?_);rintro e w' ⟨rfl,⟨nd,rfl⟩⟩;(try first|exact ⟨rfl,_,World.drewN_drewN _ _ _⟩|exact ⟨rfl,_,Eq.trans (World.drewN_drewN _ _ _) (congrArg (World.drewN _) (Nat.add_assoc _ _ _))⟩)));try go_wp2_with (first|((with_reducible refine gate_dst (N := 4) rfl ?_);refine box_event ?hg (N := 4) ?hd (cs := #[.int .i64 0,.int .u64 0]) (t := 40) ?hr ?_;(case hd=>rfl);(case hg=>rfl);(case hr=>first|(go_simp;done)|(go_simp;rfl)|(go_simp;simp [my_u8w];done));intro gb102 hg w18 hbox hb;have n0_ := Aside0.mk (below_step (bl_) hb);have n1_ := Aside0.mk (hbox);have n2_ := Aside0.mk ((by rw [hg];exact (below_size (bl_)) : w.heap.size ≤ gb102));have n3_ := Aside0.mk ((by rw [hg];exact (below_size (bl_)) : w.heap.size ≤ gb102));clear HB;have HB := n0_;have BK102 := n1_;have GW102 := n2_;have GE102 := n3_;clear n0_ n1_ n2_ n3_;clear hb hbox hg;have hcz19_0 : w18.cell? ⟨gb102,0,none⟩ = some (.int .i64 0) := (blk_cell BK102.out 0).trans rfl;have hcz19_1 : w18.cell? ⟨gb102,1,none⟩ = some (.int .u64 0) := (blk_cell BK102.out 1).trans rfl;have hfz19_0 := blk_frozen BK102.out 0;have hfz19_1 := blk_frozen BK102.out 1)|(go_at_call 27;(with_reducible refine (series_mayTime.calls ((rd_T40 l0 x7_1).f0) false _ A5.out).mono ?_);rintro e w' ⟨rfl,⟨nd,rfl⟩⟩;(try first|exact ⟨rfl,_,World.drewN_drewN _ _ _⟩|exact ⟨rfl,_,Eq.trans (World.drewN_drewN _ _ _) (congrArg (World.drewN _) (Nat.add_assoc _ _ _))⟩))))
       go_ret
       exact ⟨q27_,q69_⟩
     ·rw [if_neg c4] at H
      exact absurd H (by simp)
    ·rw [if_neg c3] at H
     exact absurd H (by simp)
   ·rw [if_neg c2] at H
    have c2b0 : decide (x7_1 < (l0.length : Int)) = false := decide_eq_false c2
    clear c2
    obtain rfl := Option.some.inj H
    go_wp2
    repeat (go_quiet (fail);try go_wp2)
    go_ret
    exact ⟨q27_,bl_⟩

end Go.Proofs.YtbedpnklnamnhaaDoor.PG

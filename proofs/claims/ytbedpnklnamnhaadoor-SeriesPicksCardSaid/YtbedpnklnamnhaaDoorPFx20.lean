/- The machine side of these statements: what each Go function computes as a plain function, and that its call computes just that. Written by a program of mine (wip/drive.py). No conditions. -/
import Derived.Test.YtbedpnklnamnhaaDoorPFx0
namespace Go.Proofs.YtbedpnklnamnhaaDoor.PF
open Go.RowKit Go.Proofs.YtbedpnklnamnhaaDoorW.PrintWords Go.Proofs.YtbedpnklnamnhaaDoorW.PrintLast Go.Proofs.YtbedpnklnamnhaaDoorW.PrintMore
attribute [local go_sem] max2_int min2_int max_two min_two max_three min_three max_four min_four   -- for this text's walks alone
set_option linter.unusedVariables false
set_option linter.unusedSimpArgs false

/-! ### series_Verdict_Bad: function 13 -/
def series_Verdict_Bad.f (a0 : Int) : Option (Bool) := if a0 = 3 then (some true) else (some (a0 == 4))
set_option maxHeartbeats 8000000 in
set_option maxRecDepth 100000 in
theorem series_Verdict_Bad.calls (a0 : Int) (r : Bool) (w : World) (h : series_Verdict_Bad.f a0 = some r) :
  Calls Tryd.prog 13 #[.int .u8 a0] w fun e w'=>e = .returned (.bool r) ∧ Drawn0 w w' := by
 have H : (if a0 = 3 then (some true) else (some (a0 == 4))) = some r := h
 clear h
 by_cases c2 : a0 = 3
 ·rw [if_pos c2] at H
  have c2b0 : (a0 == 3) = true := beq_iff_eq.mpr c2
  have c2b1 : (a0 != 3) = false := bne_eq_false_iff_eq.mpr c2
  clear c2
  obtain rfl := Option.some.inj H
  go_enter Tryd.func13,Tryd.ntmps13
  go_wp2
  go_ret
  exact ⟨q10_,q19_⟩
 ·rw [if_neg c2] at H
  have c2b0 : (a0 == 3) = false := beq_eq_false_iff_ne.mpr c2
  have c2b1 : (a0 != 3) = true := bne_iff_ne.mpr c2
  obtain rfl := Option.some.inj H
  go_enter Tryd.func13,Tryd.ntmps13
  go_wp2
  go_ret
  exact ⟨q10_,q19_⟩

/-! ### series_Count: function 14 -/
/-- How often a number stands in a list. -/
def cnt (l : List Int) (j : Int) : Nat := (l.filter (fun x => x == j)).length
theorem cnt_le (l : List Int) (j : Int) : cnt l j ≤ l.length := List.length_filter_le _ _
theorem cnt_take (l : List Int) (i : Nat) (h : i < l.length) (j : Int) : cnt (l.take (i + 1)) j = cnt (l.take i) j + (if l.getD i 0 = j then 1 else 0) := by
 unfold cnt
 rw [List.take_succ_eq_append_getElem h,List.filter_append,List.length_append]
 simp only [List.getD,List.getElem?_eq_getElem h,Option.getD_some]
 by_cases e : l[i] = j <;> simp [List.filter_cons,e]
def cntAll (l : List Int) : Bool := l.all (fun x => decide (0 ≤ x) && decide (x < 256))
def series_Count.f (l0 : List Int) : Option (Int × Int × Int × Int × Int) :=
 if l0.length ≤ 140737488351232 then (if cntAll l0 = true then some ((cnt l0 0 : Int),(cnt l0 1 : Int),(cnt l0 2 : Int),(cnt l0 3 : Int),(cnt l0 4 : Int)) else none) else none

set_option maxHeartbeats 8000000 in
set_option maxRecDepth 100000 in
theorem count_any (A0 : Option Addr) (c0 : Nat) (l : List Int) (w : World) (hr0 : Kd.C (Kd.int .u8) w A0 l.length l) (hc0 : l.length ≤ c0) (hb : l.length ≤ 140737488351232) (ha : cntAll l = true) :
  Calls Tryd.prog 14 #[.slice A0 l.length c0] w fun e w'=>e = .returned (.agg #[.int .i64 (cnt l 0),.int .i64 (cnt l 1),.int .i64 (cnt l 2),.int .i64 (cnt l 3),.int .i64 (cnt l 4)]) ∧ Below w.heap.size w w' := by
 have hu34 := Tryd.underlying34
 have HR0 := Aside0.mk hr0
 have HC0 := Aside0.mk hc0
 have HA := Aside0.mk ha
 clear hr0 hc0 ha
 have HB := Aside0.mk (Below.refl w.heap.size w)
 go_enter Tryd.func14,Tryd.ntmps14
 go_wp2_with (first|((with_reducible refine gate_dst (N := 2) rfl ?_);refine box_event ?hg (N := 2) ?hd (cs := #[.int .i64 0,.int .i64 0,.int .i64 0,.int .i64 0,.int .i64 0]) (t := 34) ?hr ?_;(case hd=>rfl);(case hg=>rfl);(case hr=>first|(go_simp;done)|(go_simp;rfl));intro g1 hg1 w1 hbox1 hb1;have HB1 := Aside0.mk (below_step HB.out hb1);have BK1 := Aside0.mk hbox1;have GE1 := Aside0.mk (show w.heap.size ≤ g1 by rw [hg1];exact Nat.le_refl _);clear hbox1 hb1 hg1 HB)|((with_reducible refine gate_dst (N := 3) rfl ?_);refine box_event ?hg (N := 3) ?hd (cs := #[.int .i64 0,.int .i64 0,.int .i64 0,.int .i64 0,.int .i64 0]) (t := 34) ?hr ?_;(case hd=>rfl);(case hg=>rfl);(case hr=>first|(go_simp;done)|(go_simp;rfl));intro g2 hg2 w2 hbox2 hb2;have HB := Aside0.mk (below_step HB1.out hb2);have BK2 := Aside0.mk hbox2;have BK := Aside0.mk (blk_below BK1.out hb2);have NE := Aside0.mk (show g1 ≠ g2 by rw [hg2];exact Nat.ne_of_lt (blk_lt BK1.out));have GE2 := Aside0.mk (show w.heap.size ≤ g2 by rw [hg2];exact HB1.out.size);clear hbox2 hb2 hg2 HB1 BK1))
 go_loopg [8] l.length (fun kq v8 w'=>∃ (i : Nat),v8 = .int .i64 i ∧ i ≤ l.length ∧ Aside0 (kq = l.length - i) ∧ Aside0 (w'.heap[g1]? = some (.cells #[.int .i64 0,.int .i64 0,.int .i64 0,.int .i64 0,.int .i64 0] 34 (0,0))) ∧ Aside0 (w'.heap[g2]? = some (.cells #[.int .i64 (cnt (l.take i) 0),.int .i64 (cnt (l.take i) 1),.int .i64 (cnt (l.take i) 2),.int .i64 (cnt (l.take i) 3),.int .i64 (cnt (l.take i) 4)] 34 (0,0))) ∧ Aside0 (Below w.heap.size w w'))
 case atStart=>exact ⟨0,rfl,q29_,⟨q29_⟩,BK,⟨by simpa [cnt] using BK2.out⟩,HB⟩
 case round =>
  clear HB BK BK2
  obtain ⟨i,rfl,hin,HK,BK,BK2,HB⟩ := hrel
  by_cases hlt : i < l.length
  ·have hlt' : decide ((i : Int) < (l.length : Int)) = true := by simp;omega
   obtain ⟨ad,e1,hx⟩ := Kd.at_int HR0.out (i : Int) q29_ q29_
   cases e1
   rw [Int.toNat_natCast,show rd l (i : Int) = l.getD i 0 from by unfold rd;rw [Int.toNat_natCast]] at hx
   replace hx := (HB.out.cell (World.block_lt_of_cell? w _ hx)).trans hx
   have hv0 : 0 ≤ l.getD i 0 ∧ l.getD i 0 < 256 := by
    have h1 := List.all_eq_true.1 HA.out (l.getD i 0) (by rw [List.getD,List.getElem?_eq_getElem hlt,Option.getD_some];exact List.getElem_mem _)
    simpa using h1
   have hct := fun j=>cnt_take l i hlt j
   have hcl := fun j=>Nat.le_trans (cnt_le (l.take i) j) (List.length_take_le _ _)
   obtain ⟨v,hv⟩ : ∃ v,l.getD i 0 = v := ⟨_,rfl⟩
   rw [hv] at hx hv0
   simp only [hv] at hct
   clear hv
   have hb0 := hcl 0
   have ht0 := hct 0
   have hb1 := hcl 1
   have ht1 := hct 1
   have hb2 := hcl 2
   have ht2 := hct 2
   have hb3 := hcl 3
   have ht3 := hct 3
   have hb4 := hcl 4
   have ht4 := hct 4
   clear hct hcl
   obtain ⟨d0,hd0⟩ : ∃ d,cnt (l.take i) 0 = d := ⟨_,rfl⟩
   rw [hd0] at hb0 ht0 BK2
   have HT0 := Aside0.mk ht0
   clear ht0 hd0
   obtain ⟨d1,hd1⟩ : ∃ d,cnt (l.take i) 1 = d := ⟨_,rfl⟩
   rw [hd1] at hb1 ht1 BK2
   have HT1 := Aside0.mk ht1
   clear ht1 hd1
   obtain ⟨d2,hd2⟩ : ∃ d,cnt (l.take i) 2 = d := ⟨_,rfl⟩
   rw [hd2] at hb2 ht2 BK2
   have HT2 := Aside0.mk ht2
   clear ht2 hd2
   obtain ⟨d3,hd3⟩ : ∃ d,cnt (l.take i) 3 = d := ⟨_,rfl⟩
   rw [hd3] at hb3 ht3 BK2
   have HT3 := Aside0.mk ht3
   clear ht3 hd3
   obtain ⟨d4,hd4⟩ : ∃ d,cnt (l.take i) 4 = d := ⟨_,rfl⟩
   rw [hd4] at hb4 ht4 BK2
   have HT4 := Aside0.mk ht4
   clear ht4 hd4
   have hle0 := hv0.1
   have hlt256 := hv0.2
   clear hv0
   rcases (show v = 0 ∨ v = 1 ∨ v = 2 ∨ v = 3 ∨ v = 4 ∨ 5 ≤ v by omega) with rfl|rfl|rfl|rfl|rfl|h5
   ·have hcz : wr.cell? ⟨g2,0,none⟩ = some (.int .i64 d0) := (blk_cell BK2.out 0).trans rfl
    have hfz := blk_frozen BK2.out 0
    go_wp2
    go_roundg (l.length - (i + 1))
    case measure=>have := HK.out;omega
    case rel=>exact ⟨i + 1,by go_num,q29_,⟨rfl⟩,⟨blk_far BK.out (p := ⟨g2,0,none⟩) NE.out _⟩,⟨by rw [HT0.out,HT1.out,HT2.out,HT3.out,HT4.out];exact blk_put BK2.out 0 _ (by simp)⟩,⟨HB.out.setCell (p := ⟨g2,0,none⟩) GE2.out _⟩⟩
   ·have hcz : wr.cell? ⟨g2,1,none⟩ = some (.int .i64 d1) := (blk_cell BK2.out 1).trans rfl
    have hfz := blk_frozen BK2.out 1
    go_wp2
    go_roundg (l.length - (i + 1))
    case measure=>have := HK.out;omega
    case rel=>exact ⟨i + 1,by go_num,q29_,⟨rfl⟩,⟨blk_far BK.out (p := ⟨g2,1,none⟩) NE.out _⟩,⟨by rw [HT0.out,HT1.out,HT2.out,HT3.out,HT4.out];exact blk_put BK2.out 1 _ (by simp)⟩,⟨HB.out.setCell (p := ⟨g2,1,none⟩) GE2.out _⟩⟩
   ·have hcz : wr.cell? ⟨g2,2,none⟩ = some (.int .i64 d2) := (blk_cell BK2.out 2).trans rfl
    have hfz := blk_frozen BK2.out 2
    go_wp2
    go_roundg (l.length - (i + 1))
    case measure=>have := HK.out;omega
    case rel=>exact ⟨i + 1,by go_num,q29_,⟨rfl⟩,⟨blk_far BK.out (p := ⟨g2,2,none⟩) NE.out _⟩,⟨by rw [HT0.out,HT1.out,HT2.out,HT3.out,HT4.out];exact blk_put BK2.out 2 _ (by simp)⟩,⟨HB.out.setCell (p := ⟨g2,2,none⟩) GE2.out _⟩⟩
   ·have hcz : wr.cell? ⟨g2,3,none⟩ = some (.int .i64 d3) := (blk_cell BK2.out 3).trans rfl
    have hfz := blk_frozen BK2.out 3
    go_wp2
    go_roundg (l.length - (i + 1))
    case measure=>have := HK.out;omega
    case rel=>exact ⟨i + 1,by go_num,q29_,⟨rfl⟩,⟨blk_far BK.out (p := ⟨g2,3,none⟩) NE.out _⟩,⟨by rw [HT0.out,HT1.out,HT2.out,HT3.out,HT4.out];exact blk_put BK2.out 3 _ (by simp)⟩,⟨HB.out.setCell (p := ⟨g2,3,none⟩) GE2.out _⟩⟩
   ·have hcz : wr.cell? ⟨g2,4,none⟩ = some (.int .i64 d4) := (blk_cell BK2.out 4).trans rfl
    have hfz := blk_frozen BK2.out 4
    go_wp2
    go_roundg (l.length - (i + 1))
    case measure=>have := HK.out;omega
    case rel=>exact ⟨i + 1,by go_num,q29_,⟨rfl⟩,⟨blk_far BK.out (p := ⟨g2,4,none⟩) NE.out _⟩,⟨by rw [HT0.out,HT1.out,HT2.out,HT3.out,HT4.out];exact blk_put BK2.out 4 _ (by simp)⟩,⟨HB.out.setCell (p := ⟨g2,4,none⟩) GE2.out _⟩⟩
   ·have hd5 : decide (v < 5) = false := by simp;omega
    go_wp2
    go_roundg (l.length - (i + 1))
    case measure=>have := HK.out;omega
    case rel=>exact ⟨i + 1,by go_num,q29_,⟨rfl⟩,BK,⟨by rw [HT0.out,HT1.out,HT2.out,HT3.out,HT4.out,if_neg q29_,if_neg q29_,if_neg q29_,if_neg q29_,if_neg q29_];exact BK2.out⟩,HB⟩
  ·have hlt' : decide ((i : Int) < (l.length : Int)) = false := by simp;omega
   obtain rfl : i = l.length := by omega
   rw [List.take_length] at BK2
   have hcz0 : wr.cell? ⟨g2,0,none⟩ = some (.int .i64 (cnt l 0)) := (blk_cell BK2.out 0).trans rfl
   have hcy0 : wr.cell? ⟨g1,0,none⟩ = some (.int .i64 0) := (blk_cell BK.out 0).trans rfl
   have hfz0 := blk_frozen BK.out 0
   have hcz1 : wr.cell? ⟨g2,1,none⟩ = some (.int .i64 (cnt l 1)) := (blk_cell BK2.out 1).trans rfl
   have hcy1 : wr.cell? ⟨g1,1,none⟩ = some (.int .i64 0) := (blk_cell BK.out 1).trans rfl
   have hfz1 := blk_frozen BK.out 1
   have hcz2 : wr.cell? ⟨g2,2,none⟩ = some (.int .i64 (cnt l 2)) := (blk_cell BK2.out 2).trans rfl
   have hcy2 : wr.cell? ⟨g1,2,none⟩ = some (.int .i64 0) := (blk_cell BK.out 2).trans rfl
   have hfz2 := blk_frozen BK.out 2
   have hcz3 : wr.cell? ⟨g2,3,none⟩ = some (.int .i64 (cnt l 3)) := (blk_cell BK2.out 3).trans rfl
   have hcy3 : wr.cell? ⟨g1,3,none⟩ = some (.int .i64 0) := (blk_cell BK.out 3).trans rfl
   have hfz3 := blk_frozen BK.out 3
   have hcz4 : wr.cell? ⟨g2,4,none⟩ = some (.int .i64 (cnt l 4)) := (blk_cell BK2.out 4).trans rfl
   have hcy4 : wr.cell? ⟨g1,4,none⟩ = some (.int .i64 0) := (blk_cell BK.out 4).trans rfl
   have hfz4 := blk_frozen BK.out 4
   go_wp2
   refine bodyPost_ret (results_cell_row rfl _ _ g1 34 #[.int .i64 (cnt l 0),.int .i64 (cnt l 1),.int .i64 (cnt l 2),.int .i64 (cnt l 3),.int .i64 (cnt l 4)] (0,0) _ rfl (blk_put (cs' := #[.int .i64 (cnt l 0),.int .i64 (cnt l 1),.int .i64 (cnt l 2),.int .i64 (cnt l 3),.int .i64 (cnt l 4)]) (blk_put (cs' := #[.int .i64 (cnt l 0),.int .i64 (cnt l 1),.int .i64 (cnt l 2),.int .i64 (cnt l 3),.int .i64 0]) (blk_put (cs' := #[.int .i64 (cnt l 0),.int .i64 (cnt l 1),.int .i64 (cnt l 2),.int .i64 0,.int .i64 0]) (blk_put (cs' := #[.int .i64 (cnt l 0),.int .i64 (cnt l 1),.int .i64 0,.int .i64 0,.int .i64 0]) (blk_put (cs' := #[.int .i64 (cnt l 0),.int .i64 0,.int .i64 0,.int .i64 0,.int .i64 0]) (BK.out) 0 _ rfl) 1 _ rfl) 2 _ rfl) 3 _ rfl) 4 _ rfl) Tryd.underlying34 rfl q11_) rfl ?_
   exact ⟨rfl,((((HB.out.setCell (p := ⟨g1,0,none⟩) GE1.out _).setCell (p := ⟨g1,1,none⟩) GE1.out _).setCell (p := ⟨g1,2,none⟩) GE1.out _).setCell (p := ⟨g1,3,none⟩) GE1.out _).setCell (p := ⟨g1,4,none⟩) GE1.out _⟩

theorem series_Count.calls (A0 : Option Addr) (c0 : Nat) (l0 : List Int) (r1 : Int) (r2 : Int) (r3 : Int) (r4 : Int) (r5 : Int) (w : World) (hr0 : Kd.C (Kd.int .u8) w A0 l0.length l0) (hc0 : l0.length ≤ c0) (h : series_Count.f l0 = some (r1, r2, r3, r4, r5)) :
  Calls Tryd.prog 14 #[.slice A0 l0.length c0] w fun e w'=>e = .returned (.agg #[.int .i64 r1,.int .i64 r2,.int .i64 r3,.int .i64 r4,.int .i64 r5]) ∧ Below w.heap.size w w' := by
 unfold series_Count.f at h
 by_cases h1 : l0.length ≤ 140737488351232
 ·rw [if_pos h1] at h
  by_cases h2 : cntAll l0 = true
  ·rw [if_pos h2] at h
   simp only [Option.some.injEq,Prod.mk.injEq] at h
   obtain ⟨rfl,rfl,rfl,rfl,rfl⟩ := h
   exact count_any A0 c0 l0 w hr0 hc0 h1 h2
  ·rw [if_neg h2] at h;exact absurd h (by simp)
 ·rw [if_neg h1] at h;exact absurd h (by simp)

/-! ### batonref22_Count: function 15 -/
def batonref22_Count.l0 : Nat → List Int → List Int → Int → Option (List Int)
 | 0,_,_,_=>none
 | k + 1,x0,x3,x4=>if x4 < (x0.length : Int) then (if 0 ≤ x4 then (if (rd x0 x4) < 5 then (if 0 ≤ (rd x0 x4) then (if (rd x0 x4) < (x3.length : Int) then (batonref22_Count.l0 k x0 (x3.set ((rd x0 x4) : Int).toNat (wrap64 ((rd x3 (rd x0 x4)) + 1))) (wrap64 (x4 + 1))) else (none)) else (none)) else (batonref22_Count.l0 k x0 x3 (wrap64 (x4 + 1)))) else (none)) else (some x3)
def batonref22_Count.f (k : Nat) (l0 : List Int) : Option (List Int) := batonref22_Count.l0 k l0 (List.replicate 5 0) 0
theorem batonref22_Count.mono_l : ∀ k, (∀ y0 y1 y2, LeO (batonref22_Count.l0 k y0 y1 y2) (batonref22_Count.l0 (k + 1) y0 y1 y2))
 | 0=>fun _ _ _ r h=>by simp [batonref22_Count.l0] at h
 | k + 1=>by
  have ih0 := batonref22_Count.mono_l k
  ·intro y0 y1 y2
   unfold batonref22_Count.l0
   repeat' first
   | (with_reducible exact ih0 _ _ _)
   | (with_reducible exact LeO.refl _)
   | (with_reducible exact LeO.none _)
   | (with_reducible refine LeO.ite ?_ ?_)
   | (with_reducible refine LeO.bind ?_ (fun _=>?_))
   | exact ih0 _ _ _
   | exact LeO.none _
   | refine LeO.ite ?_ ?_
   | refine LeO.bind ?_ (fun _=>?_)
theorem batonref22_Count.mono : ∀ a0 k, LeO (batonref22_Count.f k a0) (batonref22_Count.f (k + 1) a0) := by
 intro a0 k
 have ih0 := batonref22_Count.mono_l k
 unfold batonref22_Count.f
 repeat' first
   | (with_reducible exact ih0 _ _ _)
   | (with_reducible exact LeO.refl _)
   | (with_reducible exact LeO.none _)
   | (with_reducible refine LeO.ite ?_ ?_)
   | (with_reducible refine LeO.bind ?_ (fun _=>?_))
   | exact ih0 _ _ _
   | exact LeO.none _
   | refine LeO.ite ?_ ?_
   | refine LeO.bind ?_ (fun _=>?_)
set_option maxHeartbeats 8000000 in
set_option maxRecDepth 100000 in
theorem batonref22_Count.calls (k : Nat) (A0 : Option Addr) (c0 : Nat) (l0 : List Int) (r : List Int) (w : World) (hr0 : Kd.C (Kd.int .u8) w A0 l0.length l0) (hc0 : l0.length ≤ c0) (h : batonref22_Count.f k l0 = some r) :
  Calls Tryd.prog 15 #[.slice A0 l0.length c0] w fun e w'=>∃ v0_ : Value,e = .returned (v0_) ∧ Kd.R (Kd.int .i64) 3 w' w.heap.size (fun _=>True) v0_ r ∧ Below w.heap.size w w' := by
 have HR0 := Aside0.mk hr0
 have HC0 := Aside0.mk hc0
 clear hr0 hc0
 have HB := Aside0.mk (Below.refl w.heap.size w)
 have H : (batonref22_Count.l0 k l0 (List.replicate 5 0) 0) = some r := h
 clear h
 obtain ⟨y289,hy289⟩ : ∃ y_ : List Int,y_ = (List.replicate 5 0) := ⟨_,rfl⟩
 replace H : (batonref22_Count.l0 k l0 y289 0) = some r := by first|(rw [hy289];with_reducible exact H)|(have H2_ := (Option.bind_some _ _).symm.trans H;rw [hy289];with_reducible exact H2_)|(have H2_ := (Option.bind_some _ _).symm.trans H;with_reducible exact H2_)|with_reducible exact H|(rw [hy289];exact H)|exact H
 have Ny289 := Aside0.mk hy289
 clear hy289
 have H' := Aside0.mk H
 clear H
 go_enter Tryd.func15,Tryd.ntmps15
 go_wp2_with (first|((with_reducible refine gate_dst (N := 5) rfl ?_);refine Kd.R_make (Kd.int .i64) _ 3 rfl (N := 5) rfl 36 _ _ rfl 5 rfl rfl Tryd.underlying36 (.int .i64 0) 8 info3 rfl (by decide) q29_ 0 (ok := fun _=>True) (okp := fun _=>True) rfl (fun _ hk=>hk) trivial q29_ q29_ (Below.refl _ _) (Nat.le_refl _) ?_;intro v290 w2 ho3 hb hg_ hnew_;clear hg_ hnew_;(first|rw [← Ny289.out] at ho3|(simp only [Int.reduceToNat] at ho3;rw [← Ny289.out] at ho3));have n0_ := Aside0.mk (Kd.R_lower ho3 (below_size (bl_)));have n1_ := Aside0.mk (below_step (bl_) hb);clear HB;have HO291 := n0_;have HB := n1_;clear n0_ n1_;clear hb ho3))
 go_loopg [4] k (fun kq v4 w'=>∃ (x3_1 : List Int) (x4_1 : Int),v4 = .int .i64 x4_1 ∧ Aside0 (batonref22_Count.l0 kq l0 x3_1 x4_1 = some r) ∧ Aside0 (kq ≤ k) ∧ Aside0 (Kd.R (Kd.int .i64) 3 w' w.heap.size (fun _=>True) v290 x3_1) ∧ Aside0 (Below w.heap.size w w'))
 case atStart=>exact ⟨(y289),(0),q10_,H',⟨Nat.le_refl _⟩,⟨by (with_reducible repeat (first|apply Kd.R_alloc|apply Kd.R_drewN|apply Kd.R_drew));exact HO291.out⟩,⟨bl_⟩⟩
 case round =>
  clear H'
  try clear c1
  try clear p2
  obtain ⟨x3_1,x4_1,rfl,HA,HK1,HO_3,HB⟩ := hrel
  cases gk with
  | zero=>exact absurd HA.out (by simp [batonref22_Count.l0])
  | succ k1 =>
   have H := HA.out
   clear HA
   simp only [batonref22_Count.l0] at H
   by_cases c4 : x4_1 < (l0.length : Int)
   ·rw [if_pos c4] at H
    have c4b0 : decide (x4_1 < (l0.length : Int)) = true := decide_eq_true c4
    clear c4
    by_cases c5 : 0 ≤ x4_1
    ·rw [if_pos c5] at H
     have c5b0 : decide (0 ≤ x4_1) = true := decide_eq_true c5
     clear c5
     by_cases c6 : (rd l0 x4_1) < 5
     ·rw [if_pos c6] at H
      have c6b0 : decide ((rd l0 x4_1) < 5) = true := decide_eq_true c6
      clear c6
      by_cases c7 : 0 ≤ (rd l0 x4_1)
      ·rw [if_pos c7] at H
       have c7b0 : decide (0 ≤ (rd l0 x4_1)) = true := decide_eq_true c7
       clear c7
       by_cases c8 : (rd l0 x4_1) < (x3_1.length : Int)
       ·rw [if_pos c8] at H
        have c8b0 : decide ((rd l0 x4_1) < (x3_1.length : Int)) = true := decide_eq_true c8
        clear c8
        obtain ⟨y295,hy295⟩ : ∃ y_ : List Int,y_ = (x3_1.set ((rd l0 x4_1) : Int).toNat (wrap64 ((rd x3_1 (rd l0 x4_1)) + 1))) := ⟨_,rfl⟩
        replace H : (batonref22_Count.l0 k1 l0 y295 (wrap64 (x4_1 + 1))) = some r := by first|(rw [hy295];with_reducible exact H)|(have H2_ := (Option.bind_some _ _).symm.trans H;rw [hy295];with_reducible exact H2_)|(have H2_ := (Option.bind_some _ _).symm.trans H;with_reducible exact H2_)|with_reducible exact H|(rw [hy295];exact H)|exact H
        have Ny295 := Aside0.mk hy295
        clear hy295
        have H' := Aside0.mk H
        clear H
        have p292 : 0 ≤ (x4_1 : Int) := of_decide_eq_true q5_
        have q292 : x4_1 < (l0.length : Int) := of_decide_eq_true q5_
        obtain ⟨ad292,e292,hx292_0⟩ := Kd.at_int HR0.out x4_1 p292 q292
        cases e292
        replace hx292_0 := (HB.out.cell (World.block_lt_of_cell? w _ hx292_0)).trans hx292_0
        replace p292 := eq_true p292
        replace q292 := eq_true q292
        have p293 : 0 ≤ (x4_1 : Int) := of_decide_eq_true q5_
        have q293 : x4_1 < (l0.length : Int) := of_decide_eq_true q5_
        obtain ⟨ad293,e293,hx293_0⟩ := Kd.at_int HR0.out x4_1 p293 q293
        obtain rfl : ad292 = ad293 := (by injection e293)
        replace hx293_0 := (HB.out.cell (World.block_lt_of_cell? w _ hx293_0)).trans hx293_0
        replace p293 := eq_true p293
        replace q293 := eq_true q293
        obtain ⟨Ao10,co10,eo10⟩ := Kd.R_slice HO_3.out
        subst eo10
        have p294 : 0 ≤ ((rd l0 x4_1) : Int) := of_decide_eq_true q5_
        have q294 : (rd l0 x4_1) < (x3_1.length : Int) := of_decide_eq_true q5_
        obtain ⟨ad294,e294,hx294_0⟩ := Kd.at_int (Kd.R_reads' HO_3.out).2.2 (rd l0 x4_1) p294 q294
        cases e294
        replace p294 := eq_true p294
        replace q294 := eq_true q294
        have p9 : 0 ≤ ((rd l0 x4_1) : Int) := of_decide_eq_true q5_
        have q9 : ((rd l0 x4_1) : Int) < ((x3_1.length : Int) : Int) := of_decide_eq_true q5_
        obtain ⟨go9,co9,eo9,gb9,gl9,cl9,HG9⟩ := Kd.R_form HO_3.out q29_
        (first|cases eo9|(injection eo9 with ea_ en_ ec_;(first|subst ea_|(injection ea_ with ea_;subst ea_));subst ec_;clear en_))
        have GB9 := Aside0.mk gb9
        have GG9 := Aside0.mk HG9
        clear gb9 gl9 HG9
        (first|simp only [add_plain] at hx294_0|skip)
        obtain ⟨hx9_0,hf9_0⟩ := Kd.R_celln 0 HO_3.out ((rd l0 x4_1) : Int) p9 q9
        replace p9 := eq_true p9
        replace q9 := eq_true q9
        have HP11 := Kd.R_putg HO_3.out ((rd l0 x4_1) : Int) (wrap64 ((rd x3_1 (rd l0 x4_1)) + 1))
        go_wp2_with (first|((with_reducible refine gate_store (t := 3) (p := 25) rfl ?_);refine store_event (t := 3) (p := 25) (v := ?vo_w12) (w1 := (wr.setCell ⟨go9,((rd l0 x4_1) : Int).toNat,none⟩ (.int .i64 (wrap64 ((rd x3_1 (rd l0 x4_1)) + 1))))) ?hg ?ho ?hn ?hr ?_;(case ho=>rfl);(case hg=>rfl);(case hn=>rfl);(case hr=>first|(go_simp;done)|(go_simp;rfl)|(go_simp;simp [my_u8w];done));intro w12 hw;have hg : wr.grownBy w12 (some go9) := (by rw [hw];exact HP11.2);have hp_ : Kd.R (Kd.int .i64) 3 w12 w.heap.size (fun _=>True) (.slice (some ⟨go9,0,none⟩) x3_1.length co10) y295 := (by rw [hw,Ny295.out];exact HP11.1);clear HP11;have n0_ := Aside0.mk (hp_);have n1_ := Aside0.mk ((by rw [hw];exact below_set (HB.out) GB9.out : Below w.heap.size w w12));clear HO_3;clear HB;have HO_3 := n0_;have HB := n1_;clear n0_ n1_;clear hg hw hp_))
        go_roundg k1
        case measure=>have := HK1.out;omega
        case rel=>exact ⟨(y295),(wrap64 (x4_1 + 1)),q10_,H',⟨q46_⟩,⟨q38_⟩,⟨bl_⟩⟩
       ·rw [if_neg c8] at H
        exact absurd H (by simp)
      ·rw [if_neg c7] at H
       exact absurd H (by simp)
     ·rw [if_neg c6] at H
      have c6b0 : decide ((rd l0 x4_1) < 5) = false := decide_eq_false c6
      clear c6
      have H' := Aside0.mk H
      clear H
      have p292 : 0 ≤ (x4_1 : Int) := of_decide_eq_true q5_
      have q292 : x4_1 < (l0.length : Int) := of_decide_eq_true q5_
      obtain ⟨ad292,e292,hx292_0⟩ := Kd.at_int HR0.out x4_1 p292 q292
      cases e292
      replace hx292_0 := (HB.out.cell (World.block_lt_of_cell? w _ hx292_0)).trans hx292_0
      replace p292 := eq_true p292
      replace q292 := eq_true q292
      go_wp2
      go_roundg k1
      case measure=>have := HK1.out;omega
      case rel=>exact ⟨(x3_1),(wrap64 (x4_1 + 1)),q10_,H',⟨q46_⟩,⟨q38_⟩,⟨bl_⟩⟩
    ·rw [if_neg c5] at H
     exact absurd H (by simp)
   ·rw [if_neg c4] at H
    have c4b0 : decide (x4_1 < (l0.length : Int)) = false := decide_eq_false c4
    clear c4
    obtain rfl := Option.some.inj H
    go_wp2
    go_ret
    exact ⟨_,q9_,q38_,bl_⟩

end Go.Proofs.YtbedpnklnamnhaaDoor.PF

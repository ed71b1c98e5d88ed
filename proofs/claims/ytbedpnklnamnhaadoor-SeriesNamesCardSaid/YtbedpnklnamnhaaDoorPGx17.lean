/- The machine side of these statements: what each Go function computes as a plain function, and that its call computes just that. Written by a program of mine (wip/drive.py). No conditions. -/
import Derived.Test.YtbedpnklnamnhaaDoorPGx0
namespace Go.Proofs.YtbedpnklnamnhaaDoor.PG
open Go.RowKit Go.Proofs.YtbedpnklnamnhaaDoorW.PrintWords Go.Proofs.YtbedpnklnamnhaaDoorW.PrintLast Go.Proofs.YtbedpnklnamnhaaDoorW.PrintMore
attribute [local go_sem] max2_int min2_int max_two min_two max_three min_three max_four min_four   -- for this text's walks alone
set_option linter.unusedVariables false
set_option linter.unusedSimpArgs false

/-! ### series_Count: function 14 -/
/-- How often a number stands in a list. -/
def cnt (l : List Int) (j : Int) : Nat := (l.filter (fun x => x == j)).length
theorem cnt_le (l : List Int) (j : Int) : cnt l j ≤ l.length := List.length_filter_le _ _
theorem cnt_take (l : List Int) (i : Nat) (h : i < l.length) (j : Int) : cnt (l.take (i + 1)) j = cnt (l.take i) j + (if l.getD i 0 = j then 1 else 0) := by
 unfold cnt
 rw [List.take_succ_eq_append_getElem h,List.filter_append,List.length_append]
 simp only [List.getD,List.getElem?_eq_getElem h,Option.getD_some]
 by_cases e : l[i] = j <;> simp [List.filter_cons,e]
def cntAll (l : List Int) : Bool := l.all (fun x => decide (0 ≤ x) && decide (x < 256))
def series_Count.f (l0 : List Int) : Option (Int × Int × Int × Int × Int) :=
 if l0.length ≤ 140737488351232 then (if cntAll l0 = true then some ((cnt l0 0 : Int),(cnt l0 1 : Int),(cnt l0 2 : Int),(cnt l0 3 : Int),(cnt l0 4 : Int)) else none) else none

set_option maxHeartbeats 8000000 in
set_option maxRecDepth 100000 in
theorem count_any (A0 : Option Addr) (c0 : Nat) (l : List Int) (w : World) (hr0 : Kd.C (Kd.int .u8) w A0 l.length l) (hc0 : l.length ≤ c0) (hb : l.length ≤ 140737488351232) (ha : cntAll l = true) :
  Calls Tryd.prog 14 #[.slice A0 l.length c0] w fun e w'=>e = .returned (.agg #[.int .i64 (cnt l 0),.int .i64 (cnt l 1),.int .i64 (cnt l 2),.int .i64 (cnt l 3),.int .i64 (cnt l 4)]) ∧ Below w.heap.size w w' := by
 have hu34 := Tryd.underlying34
 have HR0 := Aside0.mk hr0
 have HC0 := Aside0.mk hc0
 have HA := Aside0.mk ha
 clear hr0 hc0 ha
 have HB := Aside0.mk (Below.refl w.heap.size w)
 go_enter Tryd.func14,Tryd.ntmps14
 go_wp2_with (first|((with_reducible refine gate_dst (N := 2) rfl ?_);refine box_event ?hg (N := 2) ?hd (cs := #[.int .i64 0,.int .i64 0,.int .i64 0,.int .i64 0,.int .i64 0]) (t := 34) ?hr ?_;(case hd=>rfl);(case hg=>rfl);(case hr=>first|(go_simp;done)|(go_simp;rfl));intro g1 hg1 w1 hbox1 hb1;have HB1 := Aside0.mk (below_step HB.out hb1);have BK1 := Aside0.mk hbox1;have GE1 := Aside0.mk (show w.heap.size ≤ g1 by rw [hg1];exact Nat.le_refl _);clear hbox1 hb1 hg1 HB)|((with_reducible refine gate_dst (N := 3) rfl ?_);refine box_event ?hg (N := 3) ?hd (cs := #[.int .i64 0,.int .i64 0,.int .i64 0,.int .i64 0,.int .i64 0]) (t := 34) ?hr ?_;(case hd=>rfl);(case hg=>rfl);(case hr=>first|(go_simp;done)|(go_simp;rfl));intro g2 hg2 w2 hbox2 hb2;have HB := Aside0.mk (below_step HB1.out hb2);have BK2 := Aside0.mk hbox2;have BK := Aside0.mk (blk_below BK1.out hb2);have NE := Aside0.mk (show g1 ≠ g2 by rw [hg2];exact Nat.ne_of_lt (blk_lt BK1.out));have GE2 := Aside0.mk (show w.heap.size ≤ g2 by rw [hg2];exact HB1.out.size);clear hbox2 hb2 hg2 HB1 BK1))
 go_loopg [8] l.length (fun kq v8 w'=>∃ (i : Nat),v8 = .int .i64 i ∧ i ≤ l.length ∧ Aside0 (kq = l.length - i) ∧ Aside0 (w'.heap[g1]? = some (.cells #[.int .i64 0,.int .i64 0,.int .i64 0,.int .i64 0,.int .i64 0] 34 (0,0))) ∧ Aside0 (w'.heap[g2]? = some (.cells #[.int .i64 (cnt (l.take i) 0),.int .i64 (cnt (l.take i) 1),.int .i64 (cnt (l.take i) 2),.int .i64 (cnt (l.take i) 3),.int .i64 (cnt (l.take i) 4)] 34 (0,0))) ∧ Aside0 (Below w.heap.size w w'))
 case atStart=>exact ⟨0,rfl,q72_,⟨q72_⟩,BK,⟨by simpa [cnt] using BK2.out⟩,HB⟩
 case round =>
  clear HB BK BK2
  obtain ⟨i,rfl,hin,HK,BK,BK2,HB⟩ := hrel
  by_cases hlt : i < l.length
  ·have hlt' : decide ((i : Int) < (l.length : Int)) = true := by simp;omega
   obtain ⟨ad,e1,hx⟩ := Kd.at_int HR0.out (i : Int) q72_ q72_
   cases e1
   rw [Int.toNat_natCast,show rd l (i : Int) = l.getD i 0 from by unfold rd;rw [Int.toNat_natCast]] at hx
   replace hx := (HB.out.cell (World.block_lt_of_cell? w _ hx)).trans hx
   have hv0 : 0 ≤ l.getD i 0 ∧ l.getD i 0 < 256 := by
    have h1 := List.all_eq_true.1 HA.out (l.getD i 0) (by rw [List.getD,List.getElem?_eq_getElem hlt,Option.getD_some];exact List.getElem_mem _)
    simpa using h1
   have hct := fun j=>cnt_take l i hlt j
   have hcl := fun j=>Nat.le_trans (cnt_le (l.take i) j) (List.length_take_le _ _)
   obtain ⟨v,hv⟩ : ∃ v,l.getD i 0 = v := ⟨_,rfl⟩
   rw [hv] at hx hv0
   simp only [hv] at hct
   clear hv
   have hb0 := hcl 0
   have ht0 := hct 0
   have hb1 := hcl 1
   have ht1 := hct 1
   have hb2 := hcl 2
   have ht2 := hct 2
   have hb3 := hcl 3
   have ht3 := hct 3
   have hb4 := hcl 4
   have ht4 := hct 4
   clear hct hcl
   obtain ⟨d0,hd0⟩ : ∃ d,cnt (l.take i) 0 = d := ⟨_,rfl⟩
   rw [hd0] at hb0 ht0 BK2
   have HT0 := Aside0.mk ht0
   clear ht0 hd0
   obtain ⟨d1,hd1⟩ : ∃ d,cnt (l.take i) 1 = d := ⟨_,rfl⟩
   rw [hd1] at hb1 ht1 BK2
   have HT1 := Aside0.mk ht1
   clear ht1 hd1
   obtain ⟨d2,hd2⟩ : ∃ d,cnt (l.take i) 2 = d := ⟨_,rfl⟩
   rw [hd2] at hb2 ht2 BK2
   have HT2 := Aside0.mk ht2
   clear ht2 hd2
   obtain ⟨d3,hd3⟩ : ∃ d,cnt (l.take i) 3 = d := ⟨_,rfl⟩
   rw [hd3] at hb3 ht3 BK2
   have HT3 := Aside0.mk ht3
   clear ht3 hd3
   obtain ⟨d4,hd4⟩ : ∃ d,cnt (l.take i) 4 = d := ⟨_,rfl⟩
   rw [hd4] at hb4 ht4 BK2
   have HT4 := Aside0.mk ht4
   clear ht4 hd4
   have hle0 := hv0.1
   have hlt256 := hv0.2
   clear hv0
   rcases (show v = 0 ∨ v = 1 ∨ v = 2 ∨ v = 3 ∨ v = 4 ∨ 5 ≤ v by omega) with rfl|rfl|rfl|rfl|rfl|h5
   ·have hcz : wr.cell? ⟨g2,0,none⟩ = some (.int .i64 d0) := (blk_cell BK2.out 0).trans rfl
    have hfz := blk_frozen BK2.out 0
    go_wp2
    go_roundg (l.length - (i + 1))
    case measure=>have := HK.out;omega
    case rel=>exact ⟨i + 1,by go_num,q72_,⟨rfl⟩,⟨blk_far BK.out (p := ⟨g2,0,none⟩) NE.out _⟩,⟨by rw [HT0.out,HT1.out,HT2.out,HT3.out,HT4.out];exact blk_put BK2.out 0 _ (by simp)⟩,⟨HB.out.setCell (p := ⟨g2,0,none⟩) GE2.out _⟩⟩
   ·have hcz : wr.cell? ⟨g2,1,none⟩ = some (.int .i64 d1) := (blk_cell BK2.out 1).trans rfl
    have hfz := blk_frozen BK2.out 1
    go_wp2
    go_roundg (l.length - (i + 1))
    case measure=>have := HK.out;omega
    case rel=>exact ⟨i + 1,by go_num,q72_,⟨rfl⟩,⟨blk_far BK.out (p := ⟨g2,1,none⟩) NE.out _⟩,⟨by rw [HT0.out,HT1.out,HT2.out,HT3.out,HT4.out];exact blk_put BK2.out 1 _ (by simp)⟩,⟨HB.out.setCell (p := ⟨g2,1,none⟩) GE2.out _⟩⟩
   ·have hcz : wr.cell? ⟨g2,2,none⟩ = some (.int .i64 d2) := (blk_cell BK2.out 2).trans rfl
    have hfz := blk_frozen BK2.out 2
    go_wp2
    go_roundg (l.length - (i + 1))
    case measure=>have := HK.out;omega
    case rel=>exact ⟨i + 1,by go_num,q72_,⟨rfl⟩,⟨blk_far BK.out (p := ⟨g2,2,none⟩) NE.out _⟩,⟨by rw [HT0.out,HT1.out,HT2.out,HT3.out,HT4.out];exact blk_put BK2.out 2 _ (by simp)⟩,⟨HB.out.setCell (p := ⟨g2,2,none⟩) GE2.out _⟩⟩
   ·have hcz : wr.cell? ⟨g2,3,none⟩ = some (.int .i64 d3) := (blk_cell BK2.out 3).trans rfl
    have hfz := blk_frozen BK2.out 3
    go_wp2
    go_roundg (l.length - (i + 1))
    case measure=>have := HK.out;omega
    case rel=>exact ⟨i + 1,by go_num,q72_,⟨rfl⟩,⟨blk_far BK.out (p := ⟨g2,3,none⟩) NE.out _⟩,⟨by rw [HT0.out,HT1.out,HT2.out,HT3.out,HT4.out];exact blk_put BK2.out 3 _ (by simp)⟩,⟨HB.out.setCell (p := ⟨g2,3,none⟩) GE2.out _⟩⟩
   ·have hcz : wr.cell? ⟨g2,4,none⟩ = some (.int .i64 d4) := (blk_cell BK2.out 4).trans rfl
    have hfz := blk_frozen BK2.out 4
    go_wp2
    go_roundg (l.length - (i + 1))
    case measure=>have := HK.out;omega
    case rel=>exact ⟨i + 1,by go_num,q72_,⟨rfl⟩,⟨blk_far BK.out (p := ⟨g2,4,none⟩) NE.out _⟩,⟨by rw [HT0.out,HT1.out,HT2.out,HT3.out,HT4.out];exact blk_put BK2.out 4 _ (by simp)⟩,⟨HB.out.setCell (p := ⟨g2,4,none⟩) GE2.out _⟩⟩
   ·have hd5 : decide (v < 5) = false := by simp;omega
    go_wp2
    go_roundg (l.length - (i + 1))
    case measure=>have := HK.out;omega
    case rel=>exact ⟨i + 1,by go_num,q72_,⟨rfl⟩,BK,⟨by rw [HT0.out,HT1.out,HT2.out,HT3.out,HT4.out,if_neg q72_,if_neg q72_,if_neg q72_,if_neg q72_,if_neg q72_];exact BK2.out⟩,HB⟩
  ·have hlt' : decide ((i : Int) < (l.length : Int)) = false := by simp;omega
   obtain rfl : i = l.length := by omega
   rw [List.take_length] at BK2
   have hcz0 : wr.cell? ⟨g2,0,none⟩ = some (.int .i64 (cnt l 0)) := (blk_cell BK2.out 0).trans rfl
   have hcy0 : wr.cell? ⟨g1,0,none⟩ = some (.int .i64 0) := (blk_cell BK.out 0).trans rfl
   have hfz0 := blk_frozen BK.out 0
   have hcz1 : wr.cell? ⟨g2,1,none⟩ = some (.int .i64 (cnt l 1)) := (blk_cell BK2.out 1).trans rfl
   have hcy1 : wr.cell? ⟨g1,1,none⟩ = some (.int .i64 0) := (blk_cell BK.out 1).trans rfl
   have hfz1 := blk_frozen BK.out 1
   have hcz2 : wr.cell? ⟨g2,2,none⟩ = some (.int .i64 (cnt l 2)) := (blk_cell BK2.out 2).trans rfl
   have hcy2 : wr.cell? ⟨g1,2,none⟩ = some (.int .i64 0) := (blk_cell BK.out 2).trans rfl
   have hfz2 := blk_frozen BK.out 2
   have hcz3 : wr.cell? ⟨g2,3,none⟩ = some (.int .i64 (cnt l 3)) := (blk_cell BK2.out 3).trans rfl
   have hcy3 : wr.cell? ⟨g1,3,none⟩ = some (.int .i64 0) := (blk_cell BK.out 3).trans rfl
   have hfz3 := blk_frozen BK.out 3
   have hcz4 : wr.cell? ⟨g2,4,none⟩ = some (.int .i64 (cnt l 4)) := (blk_cell BK2.out 4).trans rfl
   have hcy4 : wr.cell? ⟨g1,4,none⟩ = some (.int .i64 0) := (blk_cell BK.out 4).trans rfl
   have hfz4 := blk_frozen BK.out 4
   go_wp2
   refine bodyPost_ret (results_cell_row rfl _ _ g1 34 #[.int .i64 (cnt l 0),.int .i64 (cnt l 1),.int .i64 (cnt l 2),.int .i64 (cnt l 3),.int .i64 (cnt l 4)] (0,0) _ rfl (blk_put (cs' := #[.int .i64 (cnt l 0),.int .i64 (cnt l 1),.int .i64 (cnt l 2),.int .i64 (cnt l 3),.int .i64 (cnt l 4)]) (blk_put (cs' := #[.int .i64 (cnt l 0),.int .i64 (cnt l 1),.int .i64 (cnt l 2),.int .i64 (cnt l 3),.int .i64 0]) (blk_put (cs' := #[.int .i64 (cnt l 0),.int .i64 (cnt l 1),.int .i64 (cnt l 2),.int .i64 0,.int .i64 0]) (blk_put (cs' := #[.int .i64 (cnt l 0),.int .i64 (cnt l 1),.int .i64 0,.int .i64 0,.int .i64 0]) (blk_put (cs' := #[.int .i64 (cnt l 0),.int .i64 0,.int .i64 0,.int .i64 0,.int .i64 0]) (BK.out) 0 _ rfl) 1 _ rfl) 2 _ rfl) 3 _ rfl) 4 _ rfl) Tryd.underlying34 rfl q38_) rfl ?_
   exact ⟨rfl,((((HB.out.setCell (p := ⟨g1,0,none⟩) GE1.out _).setCell (p := ⟨g1,1,none⟩) GE1.out _).setCell (p := ⟨g1,2,none⟩) GE1.out _).setCell (p := ⟨g1,3,none⟩) GE1.out _).setCell (p := ⟨g1,4,none⟩) GE1.out _⟩

theorem series_Count.calls (A0 : Option Addr) (c0 : Nat) (l0 : List Int) (r1 : Int) (r2 : Int) (r3 : Int) (r4 : Int) (r5 : Int) (w : World) (hr0 : Kd.C (Kd.int .u8) w A0 l0.length l0) (hc0 : l0.length ≤ c0) (h : series_Count.f l0 = some (r1, r2, r3, r4, r5)) :
  Calls Tryd.prog 14 #[.slice A0 l0.length c0] w fun e w'=>e = .returned (.agg #[.int .i64 r1,.int .i64 r2,.int .i64 r3,.int .i64 r4,.int .i64 r5]) ∧ Below w.heap.size w w' := by
 unfold series_Count.f at h
 by_cases h1 : l0.length ≤ 140737488351232
 ·rw [if_pos h1] at h
  by_cases h2 : cntAll l0 = true
  ·rw [if_pos h2] at h
   simp only [Option.some.injEq,Prod.mk.injEq] at h
   obtain ⟨rfl,rfl,rfl,rfl,rfl⟩ := h
   exact count_any A0 c0 l0 w hr0 hc0 h1 h2
  ·rw [if_neg h2] at h;exact absurd h (by simp)
 ·rw [if_neg h1] at h;exact absurd h (by simp)

end Go.Proofs.YtbedpnklnamnhaaDoor.PG

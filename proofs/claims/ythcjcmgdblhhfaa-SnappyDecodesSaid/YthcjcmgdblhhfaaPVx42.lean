/- The machine side of these statements: what each Go function computes as a plain function, and that its call computes just that. Written by a program of mine (wip/drive.py). No conditions. -/
import Derived.Test.YthcjcmgdblhhfaaPVx0
import Derived.Test.YthcjcmgdblhhfaaPVx1
import Derived.Test.YthcjcmgdblhhfaaPVx2
import Derived.Test.YthcjcmgdblhhfaaPVx3
import Derived.Test.YthcjcmgdblhhfaaPVx4
import Derived.Test.YthcjcmgdblhhfaaPVx7
import Derived.Test.YthcjcmgdblhhfaaPVx8
namespace Go.Proofs.Ythcjcmgdblhhfaa.PV
open Go.RowKit Go.Proofs.YthcjcmgdblhhfaaW.PrintWords Go.Proofs.YthcjcmgdblhhfaaW.PrintLast Go.Proofs.YthcjcmgdblhhfaaW.PrintMore
attribute [local go_sem] max2_int min2_int max_two min_two max_three min_three max_four min_four   -- for this text's walks alone
set_option linter.unusedVariables false
set_option linter.unusedSimpArgs false

/-! ### snappy_Parts: function 30 -/
def snappy_Parts.l0 : Nat → List (S35) → ByteArray → Int → Int → Option ((List (S35)) × Int)
 | 0,_,_,_,_=>none
 | k + 1,x7,x506000,x506001,x506002=>(bits_Reader_Left.f x506000 x506001 x506002).bind fun bt510=>(if bt510.1 > 0 then ((snappy_next.f k bt510.2.1 bt510.2.2.1 bt510.2.2.2).bind fun bt514=>((bits_Reader_Err.f bt514.2.2.2.2.1 bt514.2.2.2.2.2.1 bt514.2.2.2.2.2.2).bind fun bt522=>(if bt522.1 = 0 then (if x7.length < 3518437208883 then (snappy_Parts.l0 k (x7 ++ [(⟨bt514.1,bt514.2.1,bt514.2.2.1,bt514.2.2.2.1⟩ : S35)]) bt522.2.1 bt522.2.2.1 bt522.2.2.2) else (none)) else (some (([] : List (S35)),bt522.1))))) else (some (x7,0)))
def snappy_Parts.f (k : Nat) (a0 : ByteArray) : Option ((List (S35)) × Int) := (snappy_Size.f k a0).bind fun bt500 => (if bt500.2 = 0 then ((bits_New.f a0).bind fun bt502 => ((bits_Reader_Varint.f k bt502.1 bt502.2.1 bt502.2.2 4294967296).bind fun bt506 => (snappy_Parts.l0 k ([] : List (S35)) bt506.2.1 bt506.2.2.1 bt506.2.2.2))) else (some (([] : List (S35)), bt500.2)))
theorem snappy_Parts.mono_l : ∀ k, (∀ y0 y1 y2 y3, LeO (snappy_Parts.l0 k y0 y1 y2 y3) (snappy_Parts.l0 (k + 1) y0 y1 y2 y3))
 | 0=>fun _ _ _ _ r h=>by simp [snappy_Parts.l0] at h
 | k + 1=>by
  have ih0 := snappy_Parts.mono_l k
  ·intro y0 y1 y2 y3
   unfold snappy_Parts.l0
   repeat' first
   | (with_reducible exact ih0 _ _ _ _)
   | (with_reducible exact bits_Reader_Varint.mono _ _ _ _ _)
   | (with_reducible exact snappy_Size.mono _ _)
   | (with_reducible exact snappy_next.mono _ _ _ _)
   | (with_reducible exact LeO.refl _)
   | (with_reducible exact LeO.none _)
   | (with_reducible refine LeO.ite ?_ ?_)
   | (with_reducible refine LeO.bind ?_ (fun _=>?_))
   | exact ih0 _ _ _ _
   | exact bits_Reader_Varint.mono _ _ _ _ _
   | exact snappy_Size.mono _ _
   | exact snappy_next.mono _ _ _ _
   | exact LeO.none _
   | refine LeO.ite ?_ ?_
   | refine LeO.bind ?_ (fun _=>?_)
theorem snappy_Parts.mono : ∀ a0 k, LeO (snappy_Parts.f k a0) (snappy_Parts.f (k + 1) a0) := by
 intro a0 k
 have ih0 := snappy_Parts.mono_l k
 unfold snappy_Parts.f
 repeat' first
   | (with_reducible exact ih0 _ _ _ _)
   | (with_reducible exact bits_Reader_Varint.mono _ _ _ _ _)
   | (with_reducible exact snappy_Size.mono _ _)
   | (with_reducible exact snappy_next.mono _ _ _ _)
   | (with_reducible exact LeO.refl _)
   | (with_reducible exact LeO.none _)
   | (with_reducible refine LeO.ite ?_ ?_)
   | (with_reducible refine LeO.bind ?_ (fun _=>?_))
   | exact ih0 _ _ _ _
   | exact bits_Reader_Varint.mono _ _ _ _ _
   | exact snappy_Size.mono _ _
   | exact snappy_next.mono _ _ _ _
   | exact LeO.none _
   | refine LeO.ite ?_ ?_
   | refine LeO.bind ?_ (fun _=>?_)
set_option maxHeartbeats 8000000 in
set_option maxRecDepth 100000 in
theorem snappy_Parts.calls (k : Nat) (a0 : ByteArray) (r1 : List (S35)) (r2 : Int) (w : World) (h : snappy_Parts.f k a0 = some (r1, r2)) :
  Calls Try.prog 30 #[.string a0] w fun e w'=>∃ v0_ : Value,e = .returned (.tuple #[v0_,.int .i64 r2]) ∧ Kd.R k35 35 w' w.heap.size (fun _=>True) v0_ r1 ∧ Below w.heap.size w w' := by
 have hu35 := Try.underlying35
 have HB := Aside0.mk (Below.refl w.heap.size w)
 have H : ((snappy_Size.f k a0).bind fun bt500=>(if bt500.2 = 0 then ((bits_New.f a0).bind fun bt502=>((bits_Reader_Varint.f k bt502.1 bt502.2.1 bt502.2.2 4294967296).bind fun bt506=>(snappy_Parts.l0 k ([] : List (S35)) bt506.2.1 bt506.2.2.1 bt506.2.2.2))) else (some (([] : List (S35)),bt500.2)))) = some (r1,r2) := h
 clear h
 replace H := Option.bind_eq_some_iff.mp H
 obtain ⟨⟨t500,t501⟩,A20,H⟩ := H
 replace H : (if t501 = 0 then ((bits_New.f a0).bind fun bt502=>((bits_Reader_Varint.f k bt502.1 bt502.2.1 bt502.2.2 4294967296).bind fun bt506=>(snappy_Parts.l0 k ([] : List (S35)) bt506.2.1 bt506.2.2.1 bt506.2.2.2))) else (some (([] : List (S35)),t501))) = some (r1,r2) := H
 have A2 := Aside0.mk A20
 clear A20
 by_cases c3 : t501 = 0
 ·rw [if_pos c3] at H
  have c3b0 : (t501 == 0) = true := beq_iff_eq.mpr c3
  have c3b1 : (t501 != 0) = false := bne_eq_false_iff_eq.mpr c3
  clear c3
  replace H := Option.bind_eq_some_iff.mp H
  obtain ⟨⟨t502,t503,t504⟩,A40,H⟩ := H
  replace H : ((bits_Reader_Varint.f k t502 t503 t504 4294967296).bind fun bt506=>(snappy_Parts.l0 k ([] : List (S35)) bt506.2.1 bt506.2.2.1 bt506.2.2.2)) = some (r1,r2) := H
  have A4 := Aside0.mk A40
  clear A40
  replace H := Option.bind_eq_some_iff.mp H
  obtain ⟨⟨t506,t507,t508,t509⟩,A50,H⟩ := H
  replace H : (snappy_Parts.l0 k ([] : List (S35)) t507 t508 t509) = some (r1,r2) := H
  have A5 := Aside0.mk A50
  clear A50
  have H' := Aside0.mk H
  clear H
  go_enter Try.func30,Try.ntmps30
  go_wp2_with (first|((with_reducible refine gate_callee (f := 27) rfl ?_);refine goesL_ (some 12) rfl rfl Try.func27 q9_ rfl #[.string a0] rfl q0_ ?_;(with_reducible refine (snappy_Size.calls k a0 t500 t501 _ A2.out).mono ?_);rintro e w' ⟨rfl,⟨nd,rfl⟩⟩;refine ⟨_,rfl,?_⟩)|((with_reducible refine gate_callee (f := 33) rfl ?_);refine goesL_ (some 19) rfl rfl Try.func33 q9_ rfl #[.string a0] rfl q0_ ?_;(with_reducible refine (bits_New.calls a0 t502 t503 t504 w _ ?side1 A4.out).mono ?_);(case side1=>repeat (first|(with_reducible first|exact HB.out|apply below_alloc|apply pw_below_drewN|apply below_drew1)|exact HB.out));rintro e w6 ⟨g505,rfl,hi,hb,hb2⟩;refine ⟨_,rfl,?_⟩;have n0_ := Aside0.mk (hb);have n1_ := Aside0.mk (hi);clear HB;have HB := n0_;have HI505 := n1_;clear n0_ n1_;(try clear hb);(try clear hb2);(try clear hk);(try clear hi))|((with_reducible refine gate_callee (f := 34) rfl ?_);refine goesL_ (some 21) rfl rfl Try.func34 q9_ rfl #[.pointer (some ⟨g505,0,none⟩),.int .u64 4294967296] rfl q0_ ?_;(with_reducible refine (bits_Reader_Varint.calls k g505 t502 t503 t504 4294967296 t506 t507 t508 t509 w _ ?side1 ?side2 A5.out).mono ?_);(case side1=>repeat (first|(with_reducible first|exact HI505.out|apply IsS81.alloc|apply IsS81.drewN|apply IsS81.drew|apply IsS81.set_0|apply IsS81.set_1|apply IsS81.set_2)|exact HI505.out));(case side2=>repeat (first|(with_reducible first|exact HB.out|apply below_alloc|apply pw_below_drewN|apply below_drew1|refine below_set ?_ (IsS81.ge HI505.out))|exact HB.out));rintro e w7 ⟨rfl,hi,hb,hk⟩;refine ⟨_,rfl,?_⟩;have n0_ := Aside0.mk (hb);have n1_ := Aside0.mk (hi);clear HB;clear HI505;have HB := n0_;have HI505 := n1_;clear n0_ n1_;(try clear hb);(try clear hb2);(try clear hk);(try clear hi)))
  go_loopg [7] k (fun kq v7 w'=>∃ (x7_1 : List (S35)) (x506000_1 : ByteArray) (x506001_1 : Int) (x506002_1 : Int),Aside0 (snappy_Parts.l0 kq x7_1 x506000_1 x506001_1 x506002_1 = some (r1,r2)) ∧ Aside0 (kq ≤ k) ∧ Aside0 (Kd.R k35 35 w' w.heap.size (fun _=>True) v7 x7_1) ∧ Aside0 (IsS81 w w' g505 x506000_1 x506001_1 x506002_1) ∧ Aside0 (Below w.heap.size w w'))
  case atStart=>exact ⟨(([] : List (S35))),(t507),(t508),(t509),H',⟨Nat.le_refl _⟩,⟨q39_⟩,⟨q92_⟩,⟨q49_⟩⟩
  case round =>
   clear H'
   try clear c2
   try clear p2
   try clear c3
   try clear c3b0
   try clear c3b1
   obtain ⟨x7_1,x506000_1,x506001_1,x506002_1,HA,HK1,HO_7,HI505,HB⟩ := hrel
   cases gk with
   | zero=>exact absurd HA.out (by simp [snappy_Parts.l0])
   | succ k1 =>
    have H := HA.out
    clear HA
    simp only [snappy_Parts.l0] at H
    replace H := Option.bind_eq_some_iff.mp H
    obtain ⟨⟨t510,t511,t512,t513⟩,A80,H⟩ := H
    replace H : (if t510 > 0 then ((snappy_next.f k1 t511 t512 t513).bind fun bt514=>((bits_Reader_Err.f bt514.2.2.2.2.1 bt514.2.2.2.2.2.1 bt514.2.2.2.2.2.2).bind fun bt522=>(if bt522.1 = 0 then (if x7_1.length < 3518437208883 then (snappy_Parts.l0 k1 (x7_1 ++ [(⟨bt514.1,bt514.2.1,bt514.2.2.1,bt514.2.2.2.1⟩ : S35)]) bt522.2.1 bt522.2.2.1 bt522.2.2.2) else (none)) else (some (([] : List (S35)),bt522.1))))) else (some (x7_1,0))) = some (r1,r2) := H
    have A8 := Aside0.mk A80
    clear A80
    by_cases c9 : t510 > 0
    ·rw [if_pos c9] at H
     have c9b0 : decide (0 < t510) = true := decide_eq_true c9
     clear c9
     replace H := Option.bind_eq_some_iff.mp H
     obtain ⟨⟨t514,t515,t516,t517,t518,t519,t520⟩,A100,H⟩ := H
     replace H : ((bits_Reader_Err.f t518 t519 t520).bind fun bt522=>(if bt522.1 = 0 then (if x7_1.length < 3518437208883 then (snappy_Parts.l0 k1 (x7_1 ++ [(⟨t514,t515,t516,t517⟩ : S35)]) bt522.2.1 bt522.2.2.1 bt522.2.2.2) else (none)) else (some (([] : List (S35)),bt522.1)))) = some (r1,r2) := H
     have A10 := Aside0.mk A100
     clear A100
     replace H := Option.bind_eq_some_iff.mp H
     obtain ⟨⟨t522,t523,t524,t525⟩,A110,H⟩ := H
     replace H : (if t522 = 0 then (if x7_1.length < 3518437208883 then (snappy_Parts.l0 k1 (x7_1 ++ [(⟨t514,t515,t516,t517⟩ : S35)]) t523 t524 t525) else (none)) else (some (([] : List (S35)),t522))) = some (r1,r2) := H
     have A11 := Aside0.mk A110
     clear A110
     by_cases c12 : t522 = 0
     ·rw [if_pos c12] at H
      have c12b0 : (t522 == 0) = true := beq_iff_eq.mpr c12
      have c12b1 : (t522 != 0) = false := bne_eq_false_iff_eq.mpr c12
      clear c12
      by_cases c13 : x7_1.length < 3518437208883
      ·rw [if_pos c13] at H
       have LMc13 := Aside0.mk c13
       clear c13
       obtain ⟨y526,hy526⟩ : ∃ y_ : List (S35),y_ = (x7_1 ++ [(⟨t514,t515,t516,t517⟩ : S35)]) := ⟨_,rfl⟩
       replace H : (snappy_Parts.l0 k1 y526 t523 t524 t525) = some (r1,r2) := by first|(rw [hy526];with_reducible exact H)|(have H2_ := (Option.bind_some _ _).symm.trans H;rw [hy526];with_reducible exact H2_)|(have H2_ := (Option.bind_some _ _).symm.trans H;with_reducible exact H2_)|with_reducible exact H|(rw [hy526];exact H)|exact H
       have Ny526 := Aside0.mk hy526
       clear hy526
       have H' := Aside0.mk H
       clear H
       go_wp2_with (first|((with_reducible refine gate_callee (f := 35) rfl ?_);refine goesL_ (some 23) rfl rfl Try.func35 q9_ rfl #[.pointer (some ⟨g505,0,none⟩)] rfl q0_ ?_;(with_reducible refine (bits_Reader_Left.calls g505 x506000_1 x506001_1 x506002_1 t510 t511 t512 t513 w _ ?side1 ?side2 A8.out).mono ?_);(case side1=>repeat (first|(with_reducible first|exact HI505.out|apply IsS81.alloc|apply IsS81.drewN|apply IsS81.drew|apply IsS81.set_0|apply IsS81.set_1|apply IsS81.set_2)|exact HI505.out));(case side2=>repeat (first|(with_reducible first|exact HB.out|apply below_alloc|apply pw_below_drewN|apply below_drew1|refine below_set ?_ (IsS81.ge HI505.out))|exact HB.out));rintro e w14 ⟨rfl,hi,hb,hk⟩;refine ⟨_,rfl,?_⟩;have n0_ := Aside0.mk (Kd.R_mono (Kd.R_keep (IsS81.apart (show IsS81 w _ g505 x506000_1 x506001_1 x506002_1 from by repeat (first|(with_reducible first|exact HI505.out|apply IsS81.alloc|apply IsS81.drewN|apply IsS81.drew|apply IsS81.set_0|apply IsS81.set_1|apply IsS81.set_2)|exact HI505.out)) q67_ (by decide)) hk (fun _ h=>h.2)) (fun _ h=>h.1));have n1_ := Aside0.mk (hb);have n2_ := Aside0.mk (hi);clear HO_7;clear HB;clear HI505;have HO_7 := n0_;have HB := n1_;have HI505 := n2_;clear n0_ n1_ n2_;(try clear hb);(try clear hb2);(try clear hk);(try clear hi))|((with_reducible refine gate_callee (f := 36) rfl ?_);refine goesL_ (some 26) rfl rfl Try.func36 q9_ rfl #[.pointer (some ⟨g505,0,none⟩)] rfl q0_ ?_;(with_reducible refine (snappy_next.calls k1 g505 t511 t512 t513 t514 t515 t516 t517 t518 t519 t520 w _ ?side1 ?side2 A10.out).mono ?_);(case side1=>repeat (first|(with_reducible first|exact HI505.out|apply IsS81.alloc|apply IsS81.drewN|apply IsS81.drew|apply IsS81.set_0|apply IsS81.set_1|apply IsS81.set_2)|exact HI505.out));(case side2=>repeat (first|(with_reducible first|exact HB.out|apply below_alloc|apply pw_below_drewN|apply below_drew1|refine below_set ?_ (IsS81.ge HI505.out))|exact HB.out));rintro e w15 ⟨rfl,hi,hb,hk⟩;refine ⟨_,rfl,?_⟩;have n0_ := Aside0.mk (Kd.R_mono (Kd.R_keep (IsS81.apart (show IsS81 w _ g505 t511 t512 t513 from by repeat (first|(with_reducible first|exact HI505.out|apply IsS81.alloc|apply IsS81.drewN|apply IsS81.drew|apply IsS81.set_0|apply IsS81.set_1|apply IsS81.set_2)|exact HI505.out)) q67_ (by decide)) hk (fun _ h=>h.2)) (fun _ h=>h.1));have n1_ := Aside0.mk (hb);have n2_ := Aside0.mk (hi);clear HO_7;clear HB;clear HI505;have HO_7 := n0_;have HB := n1_;have HI505 := n2_;clear n0_ n1_ n2_;(try clear hb);(try clear hb2);(try clear hk);(try clear hi))|((with_reducible refine gate_dst (N := 8) rfl ?_);refine box_event ?hg (N := 8) ?hd (cs := #[.bool false,.string (⟨#[]⟩ : ByteArray),.int .i64 0,.int .i64 0]) (t := 35) ?hr ?_;(case hd=>rfl);(case hg=>rfl);(case hr=>first|(go_simp;done)|(go_simp;rfl)|(go_simp;simp [my_u8w];done));intro gb521 hg w16 hbox hb;have n0_ := Aside0.mk (Kd.R_below (Kd.R_elderB q67_ gb521 (Nat.le_of_eq hg.symm)) hb);have n1_ := Aside0.mk (IsS81.below q92_ hb);have n2_ := Aside0.mk (below_step q49_ hb);have n3_ := Aside0.mk (hbox);have n4_ := Aside0.mk ((by rw [hg];exact (below_size q49_) : w.heap.size ≤ gb521));have n5_ := Aside0.mk ((by rw [hg];exact (below_size q49_) : w.heap.size ≤ gb521));have n6_ := Aside0.mk ((by rw [hg];exact Nat.ne_of_lt (IsS81.lt (show IsS81 w _ g505 t518 t519 t520 from by repeat (first|(with_reducible first|exact HI505.out|apply IsS81.alloc|apply IsS81.drewN|apply IsS81.drew|apply IsS81.set_0|apply IsS81.set_1|apply IsS81.set_2)|exact HI505.out))) : g505 ≠ gb521));have n7_ := Aside0.mk ((by rw [hg];exact Nat.ne_of_gt (IsS81.lt (show IsS81 w _ g505 t518 t519 t520 from by repeat (first|(with_reducible first|exact HI505.out|apply IsS81.alloc|apply IsS81.drewN|apply IsS81.drew|apply IsS81.set_0|apply IsS81.set_1|apply IsS81.set_2)|exact HI505.out))) : gb521 ≠ g505));clear HO_7;clear HI505;clear HB;have HO_7 := n0_;have HI505 := n1_;have HB := n2_;have BK521 := n3_;have GW521 := n4_;have GE521 := n5_;have NB505_521 := n6_;have NB521_505 := n7_;clear n0_ n1_ n2_ n3_ n4_ n5_ n6_ n7_;clear hb hbox hg;have hnb17 := NB521_505.out;have hnc17 := NB505_521.out;have hcz18_0 : w16.cell? ⟨gb521,0,none⟩ = some (.bool false) := (blk_cell BK521.out 0).trans rfl;have hcz18_1 : w16.cell? ⟨gb521,1,none⟩ = some (.string (⟨#[]⟩ : ByteArray)) := (blk_cell BK521.out 1).trans rfl;have hcz18_2 : w16.cell? ⟨gb521,2,none⟩ = some (.int .i64 0) := (blk_cell BK521.out 2).trans rfl;have hcz18_3 : w16.cell? ⟨gb521,3,none⟩ = some (.int .i64 0) := (blk_cell BK521.out 3).trans rfl;have hfz18_0 := blk_frozen BK521.out 0;have hfz18_1 := blk_frozen BK521.out 1;have hfz18_2 := blk_frozen BK521.out 2;have hfz18_3 := blk_frozen BK521.out 3)|((with_reducible refine gate_callee (f := 37) rfl ?_);refine goesL_ (some 28) rfl rfl Try.func37 q9_ rfl #[.pointer (some ⟨g505,0,none⟩)] rfl q0_ ?_;(with_reducible refine (bits_Reader_Err.calls g505 t518 t519 t520 t522 t523 t524 t525 w _ ?side1 ?side2 A11.out).mono ?_);(case side1=>repeat (first|(with_reducible first|exact HI505.out|apply IsS81.alloc|apply IsS81.drewN|apply IsS81.drew|apply IsS81.set_0|apply IsS81.set_1|apply IsS81.set_2|refine IsS81.far ?_ NB505_521.out _)|exact HI505.out));(case side2=>repeat (first|(with_reducible first|exact HB.out|apply below_alloc|apply pw_below_drewN|apply below_drew1|refine below_set ?_ (IsS81.ge HI505.out)|refine below_set ?_ GE521.out)|exact HB.out));rintro e w19 ⟨rfl,hi,hb,hk⟩;refine ⟨_,rfl,?_⟩;have n0_ := Aside0.mk (Kd.R_mono (Kd.R_keep (IsS81.apart (show IsS81 w _ g505 t518 t519 t520 from by repeat (first|(with_reducible first|exact HI505.out|apply IsS81.alloc|apply IsS81.drewN|apply IsS81.drew|apply IsS81.set_0|apply IsS81.set_1|apply IsS81.set_2|refine IsS81.far ?_ NB505_521.out _)|exact HI505.out)) q79_ (by decide)) hk (fun _ h=>h.2)) (fun _ h=>h.1));have n1_ := Aside0.mk (KeepBut.blk hk (g' := gb521) (o := .cells #[.bool t514,.string t515,.int .i64 t516,.int .i64 t517] 35 (0,0)) q59_ NB521_505.out (by simp));have n2_ := Aside0.mk (hb);have n3_ := Aside0.mk (hi);clear HO_7;clear BK521;clear HB;clear HI505;have HO_7 := n0_;have BK521 := n1_;have HB := n2_;have HI505 := n3_;clear n0_ n1_ n2_ n3_;(try clear hb);(try clear hb2);(try clear hk);(try clear hi);have hcz20_0 : w19.cell? ⟨gb521,0,none⟩ = some (.bool t514) := (blk_cell BK521.out 0).trans rfl;have hcz20_1 : w19.cell? ⟨gb521,1,none⟩ = some (.string t515) := (blk_cell BK521.out 1).trans rfl;have hcz20_2 : w19.cell? ⟨gb521,2,none⟩ = some (.int .i64 t516) := (blk_cell BK521.out 2).trans rfl;have hcz20_3 : w19.cell? ⟨gb521,3,none⟩ = some (.int .i64 t517) := (blk_cell BK521.out 3).trans rfl;have hfz20_0 := blk_frozen BK521.out 0;have hfz20_1 := blk_frozen BK521.out 1;have hfz20_2 := blk_frozen BK521.out 2;have hfz20_3 := blk_frozen BK521.out 3)|((with_reducible refine gate_builtin (b := .append) (xs := #[.tmp 32,.tmp 34]) rfl ?_);at_builtin;refine Kd.R_append k35 (w0 := w) w.heap.size rfl (.tmp 32) (.tmp 34) 30 35 (.agg #[(.bool false),(.string ⟨#[]⟩),(.int .i64 0),(.int .i64 0)]) 40 rfl Try.underlying30 info35 rfl (by decide) q75_ u7 x7_1 (⟨t514,t515,t516,t517⟩ : S35) [.bool t514,.string t515,.int .i64 t516,.int .i64 t517] (fun k_=>k_ ≠ gb521) (fun _=>False) rfl rfl ?aP (fun _ hk=>hk.elim) ?aF ?aO ?aB ?aS ?aL ?_;(case aP=>exact k35_mkM _ _ _ (⟨t514,t515,t516,t517⟩ : S35));(case aB=>exact q72_);(case aF=>exact (fun k_ hk=>Kd.freshB (g := gb521) (o := .cells #[.bool t514,.string t515,.int .i64 t516,.int .i64 t517] 35 (0,0)) (by (with_reducible repeat (first|refine blk_drewN ?_ _|refine blk_drew ?_|refine blk_alloc ?_ _));exact BK521.out) k_ hk));(case aO=>exact (by (with_reducible repeat (first|apply Kd.R_alloc|apply Kd.R_drewN|apply Kd.R_drew));exact Kd.R_mono HO_7.out (fun _ hk=>hk.2)));(case aS=>exact (below_size q72_));(case aL=>have := LMc13.out;omega);intro v527 w21 ho hb hg hat;rw [← Ny526.out] at ho;have n0_ := Aside0.mk (IsS81.grown q101_ hg (IsS81.own_ne HI505.out HO_7.out (by decide)));have n1_ := Aside0.mk (blk_grown (g := gb521) (o := .cells #[.bool t514,.string t515,.int .i64 t516,.int .i64 t517] 35 (0,0)) (by (with_reducible repeat (first|refine blk_drewN ?_ _|refine blk_drew ?_|refine blk_alloc ?_ _));exact BK521.out) hg (Kd.R_away HO_7.out (fun _ hk=>hk.2)));have n2_ := Aside0.mk (hb);have n3_ := Aside0.mk (ho);clear HI505;clear BK521;clear HB;clear HO_7;have HI505 := n0_;have BK521 := n1_;have HB := n2_;have HO528 := n3_;clear n0_ n1_ n2_ n3_;clear ho hb hg hat))
       go_roundg k1
       case measure=>have := HK1.out;omega
       case rel=>exact ⟨(y526),(t523),(t524),(t525),H',⟨q85_⟩,⟨by (with_reducible repeat (first|apply Kd.R_alloc|apply Kd.R_drewN|apply Kd.R_drew));exact Kd.R_mono HO528.out (fun _ hk=>trivial)⟩,⟨q101_⟩,⟨q72_⟩⟩
      ·rw [if_neg c13] at H
       exact absurd H (by simp)
     ·rw [if_neg c12] at H
      have c12b0 : (t522 == 0) = false := beq_eq_false_iff_ne.mpr c12
      have c12b1 : (t522 != 0) = true := bne_iff_ne.mpr c12
      simp only [Option.some.injEq,Prod.mk.injEq] at H
      obtain ⟨rfl,rfl⟩ := H
      go_wp2_with (first|((with_reducible refine gate_callee (f := 35) rfl ?_);refine goesL_ (some 23) rfl rfl Try.func35 q9_ rfl #[.pointer (some ⟨g505,0,none⟩)] rfl q0_ ?_;(with_reducible refine (bits_Reader_Left.calls g505 x506000_1 x506001_1 x506002_1 t510 t511 t512 t513 w _ ?side1 ?side2 A8.out).mono ?_);(case side1=>repeat (first|(with_reducible first|exact HI505.out|apply IsS81.alloc|apply IsS81.drewN|apply IsS81.drew|apply IsS81.set_0|apply IsS81.set_1|apply IsS81.set_2)|exact HI505.out));(case side2=>repeat (first|(with_reducible first|exact HB.out|apply below_alloc|apply pw_below_drewN|apply below_drew1|refine below_set ?_ (IsS81.ge HI505.out))|exact HB.out));rintro e w22 ⟨rfl,hi,hb,hk⟩;refine ⟨_,rfl,?_⟩;have n0_ := Aside0.mk (Kd.R_mono (Kd.R_keep (IsS81.apart (show IsS81 w _ g505 x506000_1 x506001_1 x506002_1 from by repeat (first|(with_reducible first|exact HI505.out|apply IsS81.alloc|apply IsS81.drewN|apply IsS81.drew|apply IsS81.set_0|apply IsS81.set_1|apply IsS81.set_2)|exact HI505.out)) q67_ (by decide)) hk (fun _ h=>h.2)) (fun _ h=>h.1));have n1_ := Aside0.mk (hb);have n2_ := Aside0.mk (hi);clear HO_7;clear HB;clear HI505;have HO_7 := n0_;have HB := n1_;have HI505 := n2_;clear n0_ n1_ n2_;(try clear hb);(try clear hb2);(try clear hk);(try clear hi))|((with_reducible refine gate_callee (f := 36) rfl ?_);refine goesL_ (some 26) rfl rfl Try.func36 q9_ rfl #[.pointer (some ⟨g505,0,none⟩)] rfl q0_ ?_;(with_reducible refine (snappy_next.calls k1 g505 t511 t512 t513 t514 t515 t516 t517 t518 t519 t520 w _ ?side1 ?side2 A10.out).mono ?_);(case side1=>repeat (first|(with_reducible first|exact HI505.out|apply IsS81.alloc|apply IsS81.drewN|apply IsS81.drew|apply IsS81.set_0|apply IsS81.set_1|apply IsS81.set_2)|exact HI505.out));(case side2=>repeat (first|(with_reducible first|exact HB.out|apply below_alloc|apply pw_below_drewN|apply below_drew1|refine below_set ?_ (IsS81.ge HI505.out))|exact HB.out));rintro e w23 ⟨rfl,hi,hb,hk⟩;refine ⟨_,rfl,?_⟩;have n0_ := Aside0.mk (Kd.R_mono (Kd.R_keep (IsS81.apart (show IsS81 w _ g505 t511 t512 t513 from by repeat (first|(with_reducible first|exact HI505.out|apply IsS81.alloc|apply IsS81.drewN|apply IsS81.drew|apply IsS81.set_0|apply IsS81.set_1|apply IsS81.set_2)|exact HI505.out)) q67_ (by decide)) hk (fun _ h=>h.2)) (fun _ h=>h.1));have n1_ := Aside0.mk (hb);have n2_ := Aside0.mk (hi);clear HO_7;clear HB;clear HI505;have HO_7 := n0_;have HB := n1_;have HI505 := n2_;clear n0_ n1_ n2_;(try clear hb);(try clear hb2);(try clear hk);(try clear hi))|((with_reducible refine gate_dst (N := 8) rfl ?_);refine box_event ?hg (N := 8) ?hd (cs := #[.bool false,.string (⟨#[]⟩ : ByteArray),.int .i64 0,.int .i64 0]) (t := 35) ?hr ?_;(case hd=>rfl);(case hg=>rfl);(case hr=>first|(go_simp;done)|(go_simp;rfl)|(go_simp;simp [my_u8w];done));intro gb521 hg w24 hbox hb;have n0_ := Aside0.mk (Kd.R_below (Kd.R_elderB q67_ gb521 (Nat.le_of_eq hg.symm)) hb);have n1_ := Aside0.mk (IsS81.below q92_ hb);have n2_ := Aside0.mk (below_step q49_ hb);have n3_ := Aside0.mk (hbox);have n4_ := Aside0.mk ((by rw [hg];exact (below_size q49_) : w.heap.size ≤ gb521));have n5_ := Aside0.mk ((by rw [hg];exact (below_size q49_) : w.heap.size ≤ gb521));have n6_ := Aside0.mk ((by rw [hg];exact Nat.ne_of_lt (IsS81.lt (show IsS81 w _ g505 t518 t519 t520 from by repeat (first|(with_reducible first|exact HI505.out|apply IsS81.alloc|apply IsS81.drewN|apply IsS81.drew|apply IsS81.set_0|apply IsS81.set_1|apply IsS81.set_2)|exact HI505.out))) : g505 ≠ gb521));have n7_ := Aside0.mk ((by rw [hg];exact Nat.ne_of_gt (IsS81.lt (show IsS81 w _ g505 t518 t519 t520 from by repeat (first|(with_reducible first|exact HI505.out|apply IsS81.alloc|apply IsS81.drewN|apply IsS81.drew|apply IsS81.set_0|apply IsS81.set_1|apply IsS81.set_2)|exact HI505.out))) : gb521 ≠ g505));clear HO_7;clear HI505;clear HB;have HO_7 := n0_;have HI505 := n1_;have HB := n2_;have BK521 := n3_;have GW521 := n4_;have GE521 := n5_;have NB505_521 := n6_;have NB521_505 := n7_;clear n0_ n1_ n2_ n3_ n4_ n5_ n6_ n7_;clear hb hbox hg;have hnb25 := NB521_505.out;have hnc25 := NB505_521.out;have hcz26_0 : w24.cell? ⟨gb521,0,none⟩ = some (.bool false) := (blk_cell BK521.out 0).trans rfl;have hcz26_1 : w24.cell? ⟨gb521,1,none⟩ = some (.string (⟨#[]⟩ : ByteArray)) := (blk_cell BK521.out 1).trans rfl;have hcz26_2 : w24.cell? ⟨gb521,2,none⟩ = some (.int .i64 0) := (blk_cell BK521.out 2).trans rfl;have hcz26_3 : w24.cell? ⟨gb521,3,none⟩ = some (.int .i64 0) := (blk_cell BK521.out 3).trans rfl;have hfz26_0 := blk_frozen BK521.out 0;have hfz26_1 := blk_frozen BK521.out 1;have hfz26_2 := blk_frozen BK521.out 2;have hfz26_3 := blk_frozen BK521.out 3)|((with_reducible refine gate_callee (f := 37) rfl ?_);refine goesL_ (some 28) rfl rfl Try.func37 q9_ rfl #[.pointer (some ⟨g505,0,none⟩)] rfl q0_ ?_;(with_reducible refine (bits_Reader_Err.calls g505 t518 t519 t520 t522 t523 t524 t525 w _ ?side1 ?side2 A11.out).mono ?_);(case side1=>repeat (first|(with_reducible first|exact HI505.out|apply IsS81.alloc|apply IsS81.drewN|apply IsS81.drew|apply IsS81.set_0|apply IsS81.set_1|apply IsS81.set_2|refine IsS81.far ?_ NB505_521.out _)|exact HI505.out));(case side2=>repeat (first|(with_reducible first|exact HB.out|apply below_alloc|apply pw_below_drewN|apply below_drew1|refine below_set ?_ (IsS81.ge HI505.out)|refine below_set ?_ GE521.out)|exact HB.out));rintro e w27 ⟨rfl,hi,hb,hk⟩;refine ⟨_,rfl,?_⟩;have n0_ := Aside0.mk (Kd.R_mono (Kd.R_keep (IsS81.apart (show IsS81 w _ g505 t518 t519 t520 from by repeat (first|(with_reducible first|exact HI505.out|apply IsS81.alloc|apply IsS81.drewN|apply IsS81.drew|apply IsS81.set_0|apply IsS81.set_1|apply IsS81.set_2|refine IsS81.far ?_ NB505_521.out _)|exact HI505.out)) q79_ (by decide)) hk (fun _ h=>h.2)) (fun _ h=>h.1));have n1_ := Aside0.mk (KeepBut.blk hk (g' := gb521) (o := .cells #[.bool t514,.string t515,.int .i64 t516,.int .i64 t517] 35 (0,0)) q59_ NB521_505.out (by simp));have n2_ := Aside0.mk (hb);have n3_ := Aside0.mk (hi);clear HO_7;clear BK521;clear HB;clear HI505;have HO_7 := n0_;have BK521 := n1_;have HB := n2_;have HI505 := n3_;clear n0_ n1_ n2_ n3_;(try clear hb);(try clear hb2);(try clear hk);(try clear hi)))
      go_ret2
      exact ⟨_,q1_,q39_,q72_⟩
    ·rw [if_neg c9] at H
     have c9b0 : decide (0 < t510) = false := decide_eq_false c9
     clear c9
     simp only [Option.some.injEq,Prod.mk.injEq] at H
     obtain ⟨rfl,rfl⟩ := H
     go_wp2_with (first|((with_reducible refine gate_callee (f := 35) rfl ?_);refine goesL_ (some 23) rfl rfl Try.func35 q9_ rfl #[.pointer (some ⟨g505,0,none⟩)] rfl q0_ ?_;(with_reducible refine (bits_Reader_Left.calls g505 x506000_1 x506001_1 x506002_1 t510 t511 t512 t513 w _ ?side1 ?side2 A8.out).mono ?_);(case side1=>repeat (first|(with_reducible first|exact HI505.out|apply IsS81.alloc|apply IsS81.drewN|apply IsS81.drew|apply IsS81.set_0|apply IsS81.set_1|apply IsS81.set_2)|exact HI505.out));(case side2=>repeat (first|(with_reducible first|exact HB.out|apply below_alloc|apply pw_below_drewN|apply below_drew1|refine below_set ?_ (IsS81.ge HI505.out))|exact HB.out));rintro e w28 ⟨rfl,hi,hb,hk⟩;refine ⟨_,rfl,?_⟩;have n0_ := Aside0.mk (Kd.R_mono (Kd.R_keep (IsS81.apart (show IsS81 w _ g505 x506000_1 x506001_1 x506002_1 from by repeat (first|(with_reducible first|exact HI505.out|apply IsS81.alloc|apply IsS81.drewN|apply IsS81.drew|apply IsS81.set_0|apply IsS81.set_1|apply IsS81.set_2)|exact HI505.out)) q67_ (by decide)) hk (fun _ h=>h.2)) (fun _ h=>h.1));have n1_ := Aside0.mk (hb);have n2_ := Aside0.mk (hi);clear HO_7;clear HB;clear HI505;have HO_7 := n0_;have HB := n1_;have HI505 := n2_;clear n0_ n1_ n2_;(try clear hb);(try clear hb2);(try clear hk);(try clear hi)))
     go_ret2
     exact ⟨_,q1_,q67_,q49_⟩
 ·rw [if_neg c3] at H
  have c3b0 : (t501 == 0) = false := beq_eq_false_iff_ne.mpr c3
  have c3b1 : (t501 != 0) = true := bne_iff_ne.mpr c3
  simp only [Option.some.injEq,Prod.mk.injEq] at H
  obtain ⟨rfl,rfl⟩ := H
  go_enter Try.func30,Try.ntmps30
  go_wp2_with (first|((with_reducible refine gate_callee (f := 27) rfl ?_);refine goesL_ (some 12) rfl rfl Try.func27 q9_ rfl #[.string a0] rfl q0_ ?_;(with_reducible refine (snappy_Size.calls k a0 t500 t501 _ A2.out).mono ?_);rintro e w' ⟨rfl,⟨nd,rfl⟩⟩;refine ⟨_,rfl,?_⟩))
  go_ret2
  exact ⟨_,q1_,q39_,bl_⟩

end Go.Proofs.Ythcjcmgdblhhfaa.PV

/- The machine side of these statements: what each Go function computes as a plain function, and that its call computes just that. Written by a program of mine (wip/drive.py). No conditions. -/
import Derived.Test.YthcjcmgdblhhfaaPVx0
import Derived.Test.YthcjcmgdblhhfaaPVx38
import Derived.Test.YthcjcmgdblhhfaaPVx40
namespace Go.Proofs.Ythcjcmgdblhhfaa.PV
open Go.RowKit Go.Proofs.YthcjcmgdblhhfaaW.PrintWords Go.Proofs.YthcjcmgdblhhfaaW.PrintLast Go.Proofs.YthcjcmgdblhhfaaW.PrintMore
attribute [local go_sem] max2_int min2_int max_two min_two max_three min_three max_four min_four   -- for this text's walks alone
set_option linter.unusedVariables false
set_option linter.unusedSimpArgs false

/-! ### batonref03_Parts: function 31 -/
def batonref03_Parts.l0 : Nat → ByteArray → Int → List (S72) → Option ((List (S72)) × Int)
 | 0,_,_,_=>none
 | k + 1,x0,x7,x9=>if x7 < (x0.size : Int) then (if 0 ≤ x7 then (if x7 ≤ (x0.size : Int) then ((batonref03_element.f k (x0.extract (x7 : Int).toNat x0.size)).bind fun bt534=>(if bt534.2.2.2.2 < 0 then (some (([] : List (S72)),8)) else (if x9.length < 3518437208883 then (batonref03_Parts.l0 k x0 (wrap64 (x7 + bt534.2.2.2.2)) (x9 ++ [(⟨bt534.1,bt534.2.1,bt534.2.2.1,bt534.2.2.2.1⟩ : S72)])) else (none)))) else (none)) else (none)) else (some (x9,0))
def batonref03_Parts.f (k : Nat) (a0 : ByteArray) : Option ((List (S72)) × Int) := (batonref03_Size.f k a0).bind fun bt529 => (if bt529.2 = 0 then ((batonref01_Uvarint.f k a0 0).bind fun bt531 => (batonref03_Parts.l0 k a0 bt531.2.1 ([] : List (S72)))) else (some (([] : List (S72)), bt529.2)))
theorem batonref03_Parts.mono_l : ∀ k, (∀ y0 y1 y2, LeO (batonref03_Parts.l0 k y0 y1 y2) (batonref03_Parts.l0 (k + 1) y0 y1 y2))
 | 0=>fun _ _ _ r h=>by simp [batonref03_Parts.l0] at h
 | k + 1=>by
  have ih0 := batonref03_Parts.mono_l k
  ·intro y0 y1 y2
   unfold batonref03_Parts.l0
   repeat' first
   | (with_reducible exact ih0 _ _ _)
   | (with_reducible exact batonref01_Uvarint.mono _ _ _)
   | (with_reducible exact batonref03_Size.mono _ _)
   | (with_reducible exact batonref03_element.mono _ _)
   | (with_reducible exact LeO.refl _)
   | (with_reducible exact LeO.none _)
   | (with_reducible refine LeO.ite ?_ ?_)
   | (with_reducible refine LeO.bind ?_ (fun _=>?_))
   | exact ih0 _ _ _
   | exact batonref01_Uvarint.mono _ _ _
   | exact batonref03_Size.mono _ _
   | exact batonref03_element.mono _ _
   | exact LeO.none _
   | refine LeO.ite ?_ ?_
   | refine LeO.bind ?_ (fun _=>?_)
theorem batonref03_Parts.mono : ∀ a0 k, LeO (batonref03_Parts.f k a0) (batonref03_Parts.f (k + 1) a0) := by
 intro a0 k
 have ih0 := batonref03_Parts.mono_l k
 unfold batonref03_Parts.f
 repeat' first
   | (with_reducible exact ih0 _ _ _)
   | (with_reducible exact batonref01_Uvarint.mono _ _ _)
   | (with_reducible exact batonref03_Size.mono _ _)
   | (with_reducible exact batonref03_element.mono _ _)
   | (with_reducible exact LeO.refl _)
   | (with_reducible exact LeO.none _)
   | (with_reducible refine LeO.ite ?_ ?_)
   | (with_reducible refine LeO.bind ?_ (fun _=>?_))
   | exact ih0 _ _ _
   | exact batonref01_Uvarint.mono _ _ _
   | exact batonref03_Size.mono _ _
   | exact batonref03_element.mono _ _
   | exact LeO.none _
   | refine LeO.ite ?_ ?_
   | refine LeO.bind ?_ (fun _=>?_)
set_option maxHeartbeats 8000000 in
set_option maxRecDepth 100000 in
theorem batonref03_Parts.calls (k : Nat) (a0 : ByteArray) (r1 : List (S72)) (r2 : Int) (w : World) (h : batonref03_Parts.f k a0 = some (r1, r2)) :
  Calls Try.prog 31 #[.string a0] w fun e w'=>∃ v0_ : Value,e = .returned (.tuple #[v0_,.int .i64 r2]) ∧ Kd.R k72 72 w' w.heap.size (fun _=>True) v0_ r1 ∧ Below w.heap.size w w' := by
 have hu72 := Try.underlying72
 have HB := Aside0.mk (Below.refl w.heap.size w)
 have H : ((batonref03_Size.f k a0).bind fun bt529=>(if bt529.2 = 0 then ((batonref01_Uvarint.f k a0 0).bind fun bt531=>(batonref03_Parts.l0 k a0 bt531.2.1 ([] : List (S72)))) else (some (([] : List (S72)),bt529.2)))) = some (r1,r2) := h
 clear h
 replace H := Option.bind_eq_some_iff.mp H
 obtain ⟨⟨t529,t530⟩,A20,H⟩ := H
 replace H : (if t530 = 0 then ((batonref01_Uvarint.f k a0 0).bind fun bt531=>(batonref03_Parts.l0 k a0 bt531.2.1 ([] : List (S72)))) else (some (([] : List (S72)),t530))) = some (r1,r2) := H
 have A2 := Aside0.mk A20
 clear A20
 by_cases c3 : t530 = 0
 ·rw [if_pos c3] at H
  have c3b0 : (t530 == 0) = true := beq_iff_eq.mpr c3
  have c3b1 : (t530 != 0) = false := bne_eq_false_iff_eq.mpr c3
  clear c3
  replace H := Option.bind_eq_some_iff.mp H
  obtain ⟨⟨t531,t532,t533⟩,A40,H⟩ := H
  replace H : (batonref03_Parts.l0 k a0 t532 ([] : List (S72))) = some (r1,r2) := H
  have A4 := Aside0.mk A40
  clear A40
  have H' := Aside0.mk H
  clear H
  go_enter Try.func31,Try.ntmps31
  go_wp2_with (first|((with_reducible refine gate_callee (f := 28) rfl ?_);refine goesL_ (some 14) rfl rfl Try.func28 q9_ rfl #[.string a0] rfl q0_ ?_;(with_reducible refine (batonref03_Size.calls k a0 t529 t530 _ A2.out).mono ?_);rintro e w' ⟨rfl,⟨nd,rfl⟩⟩;refine ⟨_,rfl,?_⟩)|((with_reducible refine gate_callee (f := 48) rfl ?_);refine goesL_ (some 22) rfl rfl Try.func48 q9_ rfl #[.string a0,.int .i64 0] rfl q0_ ?_;(with_reducible refine (batonref01_Uvarint.calls k a0 0 t531 t532 t533 _ A4.out).mono ?_);rintro e w' ⟨rfl,⟨nd,rfl⟩⟩;refine ⟨_,rfl,?_⟩))
  go_loopg [7,9] k (fun kq v7 v9 w'=>∃ (x7_1 : Int) (x9_1 : List (S72)),v7 = .int .i64 x7_1 ∧ Aside0 (batonref03_Parts.l0 kq a0 x7_1 x9_1 = some (r1,r2)) ∧ Aside0 (kq ≤ k) ∧ Aside0 (Kd.R k72 72 w' w.heap.size (fun _=>True) v9 x9_1) ∧ Aside0 (Below w.heap.size w w'))
  case atStart=>exact ⟨(t532),(([] : List (S72))),q4_,H',⟨Nat.le_refl _⟩,⟨q39_⟩,⟨bl_⟩⟩
  case round =>
   clear H'
   try clear c2
   try clear p2
   try clear c3
   try clear c3b0
   try clear c3b1
   try clear c4
   obtain ⟨x7_1,x9_1,rfl,HA,HK1,HO_9,HB⟩ := hrel
   cases gk with
   | zero=>exact absurd HA.out (by simp [batonref03_Parts.l0])
   | succ k1 =>
    have H := HA.out
    clear HA
    simp only [batonref03_Parts.l0] at H
    by_cases c5 : x7_1 < (a0.size : Int)
    ·rw [if_pos c5] at H
     have c5b0 : decide (x7_1 < (a0.size : Int)) = true := decide_eq_true c5
     clear c5
     by_cases c6 : 0 ≤ x7_1
     ·rw [if_pos c6] at H
      have c6b0 := eq_true c6
      have c6b1 : decide (0 ≤ x7_1) = true := decide_eq_true c6
      clear c6
      by_cases c7 : x7_1 ≤ (a0.size : Int)
      ·rw [if_pos c7] at H
       have c7b0 := eq_true c7
       have c7b1 : decide (x7_1 ≤ (a0.size : Int)) = true := decide_eq_true c7
       clear c7
       replace H := Option.bind_eq_some_iff.mp H
       obtain ⟨⟨t534,t535,t536,t537,t538⟩,A80,H⟩ := H
       replace H : (if t538 < 0 then (some (([] : List (S72)),8)) else (if x9_1.length < 3518437208883 then (batonref03_Parts.l0 k1 a0 (wrap64 (x7_1 + t538)) (x9_1 ++ [(⟨t534,t535,t536,t537⟩ : S72)])) else (none))) = some (r1,r2) := H
       have A8 := Aside0.mk A80
       clear A80
       by_cases c9 : t538 < 0
       ·rw [if_pos c9] at H
        have c9b0 : decide (t538 < 0) = true := decide_eq_true c9
        clear c9
        simp only [Option.some.injEq,Prod.mk.injEq] at H
        obtain ⟨rfl,rfl⟩ := H
        go_wp2_with (first|((with_reducible refine gate_callee (f := 49) rfl ?_);refine goesL_ (some 34) rfl rfl Try.func49 q9_ rfl #[.string (a0.extract (x7_1 : Int).toNat a0.size)] rfl q0_ ?_;(with_reducible refine (batonref03_element.calls k1 (a0.extract (x7_1 : Int).toNat a0.size) t534 t535 t536 t537 t538 _ A8.out).mono ?_);rintro e w10 ⟨rfl,hb⟩;refine ⟨_,rfl,?_⟩;have n0_ := Aside0.mk (Kd.R_below q29_ hb);have n1_ := Aside0.mk (below_step (bl_) hb);clear HO_9;clear HB;have HO_9 := n0_;have HB := n1_;clear n0_ n1_;(try clear hb);(try clear hb2);(try clear hk);(try clear hi))|((with_reducible refine gate_dst (N := 10) rfl ?_);refine box_event ?hg (N := 10) ?hd (cs := #[.bool false,.string (⟨#[]⟩ : ByteArray),.int .i64 0,.int .i64 0]) (t := 72) ?hr ?_;(case hd=>rfl);(case hg=>rfl);(case hr=>first|(go_simp;done)|(go_simp;rfl)|(go_simp;simp [my_u8w];done));intro gb539 hg w11 hbox hb;have n0_ := Aside0.mk (Kd.R_below (Kd.R_elderB q29_ gb539 (Nat.le_of_eq hg.symm)) hb);have n1_ := Aside0.mk (below_step (bl_) hb);have n2_ := Aside0.mk (hbox);have n3_ := Aside0.mk ((by rw [hg];exact (below_size (bl_)) : w.heap.size ≤ gb539));have n4_ := Aside0.mk ((by rw [hg];exact (below_size (bl_)) : w.heap.size ≤ gb539));clear HO_9;clear HB;have HO_9 := n0_;have HB := n1_;have BK539 := n2_;have GW539 := n3_;have GE539 := n4_;clear n0_ n1_ n2_ n3_ n4_;clear hb hbox hg;have hcz12_0 : w11.cell? ⟨gb539,0,none⟩ = some (.bool false) := (blk_cell BK539.out 0).trans rfl;have hcz12_1 : w11.cell? ⟨gb539,1,none⟩ = some (.string (⟨#[]⟩ : ByteArray)) := (blk_cell BK539.out 1).trans rfl;have hcz12_2 : w11.cell? ⟨gb539,2,none⟩ = some (.int .i64 0) := (blk_cell BK539.out 2).trans rfl;have hcz12_3 : w11.cell? ⟨gb539,3,none⟩ = some (.int .i64 0) := (blk_cell BK539.out 3).trans rfl;have hfz12_0 := blk_frozen BK539.out 0;have hfz12_1 := blk_frozen BK539.out 1;have hfz12_2 := blk_frozen BK539.out 2;have hfz12_3 := blk_frozen BK539.out 3))
        go_ret2
        exact ⟨_,q1_,q39_,q81_⟩
       ·rw [if_neg c9] at H
        have c9b0 : decide (t538 < 0) = false := decide_eq_false c9
        clear c9
        by_cases c13 : x9_1.length < 3518437208883
        ·rw [if_pos c13] at H
         have LMc13 := Aside0.mk c13
         clear c13
         obtain ⟨y540,hy540⟩ : ∃ y_ : List (S72),y_ = (x9_1 ++ [(⟨t534,t535,t536,t537⟩ : S72)]) := ⟨_,rfl⟩
         replace H : (batonref03_Parts.l0 k1 a0 (wrap64 (x7_1 + t538)) y540) = some (r1,r2) := by first|(rw [hy540];with_reducible exact H)|(have H2_ := (Option.bind_some _ _).symm.trans H;rw [hy540];with_reducible exact H2_)|(have H2_ := (Option.bind_some _ _).symm.trans H;with_reducible exact H2_)|with_reducible exact H|(rw [hy540];exact H)|exact H
         have Ny540 := Aside0.mk hy540
         clear hy540
         have H' := Aside0.mk H
         clear H
         go_wp2_with (first|((with_reducible refine gate_callee (f := 49) rfl ?_);refine goesL_ (some 34) rfl rfl Try.func49 q9_ rfl #[.string (a0.extract (x7_1 : Int).toNat a0.size)] rfl q0_ ?_;(with_reducible refine (batonref03_element.calls k1 (a0.extract (x7_1 : Int).toNat a0.size) t534 t535 t536 t537 t538 _ A8.out).mono ?_);rintro e w14 ⟨rfl,hb⟩;refine ⟨_,rfl,?_⟩;have n0_ := Aside0.mk (Kd.R_below q29_ hb);have n1_ := Aside0.mk (below_step (bl_) hb);clear HO_9;clear HB;have HO_9 := n0_;have HB := n1_;clear n0_ n1_;(try clear hb);(try clear hb2);(try clear hk);(try clear hi))|((with_reducible refine gate_dst (N := 10) rfl ?_);refine box_event ?hg (N := 10) ?hd (cs := #[.bool false,.string (⟨#[]⟩ : ByteArray),.int .i64 0,.int .i64 0]) (t := 72) ?hr ?_;(case hd=>rfl);(case hg=>rfl);(case hr=>first|(go_simp;done)|(go_simp;rfl)|(go_simp;simp [my_u8w];done));intro gb539 hg w15 hbox hb;have n0_ := Aside0.mk (Kd.R_below (Kd.R_elderB q29_ gb539 (Nat.le_of_eq hg.symm)) hb);have n1_ := Aside0.mk (below_step (bl_) hb);have n2_ := Aside0.mk (hbox);have n3_ := Aside0.mk ((by rw [hg];exact (below_size (bl_)) : w.heap.size ≤ gb539));have n4_ := Aside0.mk ((by rw [hg];exact (below_size (bl_)) : w.heap.size ≤ gb539));clear HO_9;clear HB;have HO_9 := n0_;have HB := n1_;have BK539 := n2_;have GW539 := n3_;have GE539 := n4_;clear n0_ n1_ n2_ n3_ n4_;clear hb hbox hg;have hcz16_0 : w15.cell? ⟨gb539,0,none⟩ = some (.bool false) := (blk_cell BK539.out 0).trans rfl;have hcz16_1 : w15.cell? ⟨gb539,1,none⟩ = some (.string (⟨#[]⟩ : ByteArray)) := (blk_cell BK539.out 1).trans rfl;have hcz16_2 : w15.cell? ⟨gb539,2,none⟩ = some (.int .i64 0) := (blk_cell BK539.out 2).trans rfl;have hcz16_3 : w15.cell? ⟨gb539,3,none⟩ = some (.int .i64 0) := (blk_cell BK539.out 3).trans rfl;have hfz16_0 := blk_frozen BK539.out 0;have hfz16_1 := blk_frozen BK539.out 1;have hfz16_2 := blk_frozen BK539.out 2;have hfz16_3 := blk_frozen BK539.out 3)|((with_reducible refine gate_builtin (b := .append) (xs := #[.tmp 39,.tmp 41]) rfl ?_);at_builtin;refine Kd.R_append k72 (w0 := w) w.heap.size rfl (.tmp 39) (.tmp 41) 39 72 (.agg #[(.bool false),(.string ⟨#[]⟩),(.int .i64 0),(.int .i64 0)]) 40 rfl Try.underlying39 info72 rfl (by decide) q75_ u9 x9_1 (⟨t534,t535,t536,t537⟩ : S72) [.bool t534,.string t535,.int .i64 t536,.int .i64 t537] (fun k_=>k_ ≠ gb539) (fun _=>False) rfl (by first|(go_simp;done)|(go_simp;rfl)) ?aP (fun _ hk=>hk.elim) ?aF ?aO ?aB ?aS ?aL ?_;(case aP=>exact k72_mkM _ _ _ (⟨t534,t535,t536,t537⟩ : S72));(case aB=>exact q81_);(case aF=>exact (fun k_ hk=>Kd.freshB (g := gb539) (o := .cells #[.bool t534,.string t535,.int .i64 t536,.int .i64 t537] 72 (0,0)) q60_ k_ hk));(case aO=>exact (by (with_reducible repeat (first|apply Kd.R_alloc|apply Kd.R_drewN|apply Kd.R_drew));exact Kd.R_mono (Kd.R_far (p := ⟨gb539,3,none⟩) (Kd.R_far (p := ⟨gb539,2,none⟩) (Kd.R_far (p := ⟨gb539,1,none⟩) (Kd.R_far (p := ⟨gb539,0,none⟩) (Kd.R_mono HO_9.out (fun k_ hk=>(⟨hk,hk.2⟩ : _ ∧ k_ ≠ gb539))) (fun _ hk=>hk.2) (.bool t534)) (fun _ hk=>hk.2) (.string t535)) (fun _ hk=>hk.2) (.int .i64 t536)) (fun _ hk=>hk.2) (.int .i64 t537)) (fun _ hk=>hk.1.2)));(case aS=>exact (below_size q81_));(case aL=>have := LMc13.out;omega);intro v541 w17 ho hb hg hat;rw [← Ny540.out] at ho;have n0_ := Aside0.mk (blk_grown (g := gb539) (o := .cells #[.bool t534,.string t535,.int .i64 t536,.int .i64 t537] 72 (0,0)) q60_ hg (Kd.R_away HO_9.out (fun _ hk=>hk.2)));have n1_ := Aside0.mk (hb);have n2_ := Aside0.mk (ho);clear BK539;clear HB;clear HO_9;have BK539 := n0_;have HB := n1_;have HO542 := n2_;clear n0_ n1_ n2_;clear ho hb hg hat))
         go_roundg k1
         case measure=>have := HK1.out;omega
         case rel=>exact ⟨(wrap64 (x7_1 + t538)),(y540),q4_,H',⟨q85_⟩,⟨by (with_reducible repeat (first|apply Kd.R_alloc|apply Kd.R_drewN|apply Kd.R_drew));exact Kd.R_mono HO542.out (fun _ hk=>trivial)⟩,⟨q81_⟩⟩
        ·rw [if_neg c13] at H
         exact absurd H (by simp)
      ·rw [if_neg c7] at H
       exact absurd H (by simp)
     ·rw [if_neg c6] at H
      exact absurd H (by simp)
    ·rw [if_neg c5] at H
     have c5b0 : decide (x7_1 < (a0.size : Int)) = false := decide_eq_false c5
     clear c5
     simp only [Option.some.injEq,Prod.mk.injEq] at H
     obtain ⟨rfl,rfl⟩ := H
     go_wp2
     go_ret2
     exact ⟨_,q1_,q29_,bl_⟩
 ·rw [if_neg c3] at H
  have c3b0 : (t530 == 0) = false := beq_eq_false_iff_ne.mpr c3
  have c3b1 : (t530 != 0) = true := bne_iff_ne.mpr c3
  simp only [Option.some.injEq,Prod.mk.injEq] at H
  obtain ⟨rfl,rfl⟩ := H
  go_enter Try.func31,Try.ntmps31
  go_wp2_with (first|((with_reducible refine gate_callee (f := 28) rfl ?_);refine goesL_ (some 14) rfl rfl Try.func28 q9_ rfl #[.string a0] rfl q0_ ?_;(with_reducible refine (batonref03_Size.calls k a0 t529 t530 _ A2.out).mono ?_);rintro e w' ⟨rfl,⟨nd,rfl⟩⟩;refine ⟨_,rfl,?_⟩))
  go_ret2
  exact ⟨_,q1_,q39_,bl_⟩

end Go.Proofs.Ythcjcmgdblhhfaa.PV

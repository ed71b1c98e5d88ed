/- The machine side of these statements: what each Go function computes as a plain function, and that its call computes just that. Written by a program of mine (wip/drive.py). No conditions. -/
import Derived.Test.YthcjcmgdblhhfaaPVx0
import Derived.Test.YthcjcmgdblhhfaaPVx1
import Derived.Test.YthcjcmgdblhhfaaPVx2
namespace Go.Proofs.Ythcjcmgdblhhfaa.PV
open Go.RowKit Go.Proofs.YthcjcmgdblhhfaaW.PrintWords Go.Proofs.YthcjcmgdblhhfaaW.PrintLast Go.Proofs.YthcjcmgdblhhfaaW.PrintMore
attribute [local go_sem] max2_int min2_int max_two min_two max_three min_three max_four min_four   -- for this text's walks alone
set_option linter.unusedVariables false
set_option linter.unusedSimpArgs false

/-! ### bits_Reader_Varint: function 34 -/
def bits_Reader_Varint.j0 : Nat → Int → Int → Int → Bool → ByteArray → Int → Int → Option (Int × ByteArray × Int × Int)
 | 0,_,_,_,_,_,_,_=>none
 | k + 1,x5,x6,x7,x30,x1000,x1001,x1002=>if x30 = true then ((bits_Reader_take.f x1000 x1001 x1002 x6 40).bind fun bt112=>(if bt112.1 = true then (some (x5,bt112.2.1,bt112.2.2.1,bt112.2.2.2)) else (some (0,bt112.2.1,bt112.2.2.1,bt112.2.2.2)))) else ((bits_Reader_take.f x1000 x1001 x1002 x6 x7).bind fun bt116=>(if bt116.1 = true then (some (x5,bt116.2.1,bt116.2.2.1,bt116.2.2.2)) else (some (0,bt116.2.1,bt116.2.2.1,bt116.2.2.2))))
def bits_Reader_Varint.f (k : Nat) (s0_0 : ByteArray) (s0_1 : Int) (s0_2 : Int) (a1 : Int) : Option (Int × ByteArray × Int × Int) := (bits_Reader_good.f s0_0 s0_1 s0_2).bind fun bt105 => (if bt105.1 = true then ((bits_Uvarint.f k bt105.2.1 bt105.2.2.1).bind fun bt109 => (if bt109.2.2 = 0 then (bits_Reader_Varint.j0 k bt109.1 bt109.2.1 bt109.2.2 (decide (bt109.1 > a1)) bt105.2.1 bt105.2.2.1 bt105.2.2.2) else (bits_Reader_Varint.j0 k bt109.1 bt109.2.1 bt109.2.2 false bt105.2.1 bt105.2.2.1 bt105.2.2.2))) else (some (0, bt105.2.1, bt105.2.2.1, bt105.2.2.2)))
theorem bits_Reader_Varint.mono_l : ∀ k, (∀ y0 y1 y2 y3 y4 y5 y6, LeO (bits_Reader_Varint.j0 k y0 y1 y2 y3 y4 y5 y6) (bits_Reader_Varint.j0 (k + 1) y0 y1 y2 y3 y4 y5 y6))
 | 0=>fun _ _ _ _ _ _ _ r h=>by simp [bits_Reader_Varint.j0] at h
 | k + 1=>by
  have ih0 := bits_Reader_Varint.mono_l k
  ·intro y0 y1 y2 y3 y4 y5 y6
   unfold bits_Reader_Varint.j0
   repeat' first
   | (with_reducible exact ih0 _ _ _ _ _ _ _)
   | (with_reducible exact bits_Uvarint.mono _ _ _)
   | (with_reducible exact LeO.refl _)
   | (with_reducible exact LeO.none _)
   | (with_reducible refine LeO.ite ?_ ?_)
   | (with_reducible refine LeO.bind ?_ (fun _=>?_))
   | exact ih0 _ _ _ _ _ _ _
   | exact bits_Uvarint.mono _ _ _
   | exact LeO.none _
   | refine LeO.ite ?_ ?_
   | refine LeO.bind ?_ (fun _=>?_)
theorem bits_Reader_Varint.mono : ∀ a0 a1 a2 a3 k, LeO (bits_Reader_Varint.f k a0 a1 a2 a3) (bits_Reader_Varint.f (k + 1) a0 a1 a2 a3) := by
 intro a0 a1 a2 a3 k
 have ih0 := bits_Reader_Varint.mono_l k
 unfold bits_Reader_Varint.f
 repeat' first
   | (with_reducible exact ih0 _ _ _ _ _ _ _)
   | (with_reducible exact bits_Uvarint.mono _ _ _)
   | (with_reducible exact LeO.refl _)
   | (with_reducible exact LeO.none _)
   | (with_reducible refine LeO.ite ?_ ?_)
   | (with_reducible refine LeO.bind ?_ (fun _=>?_))
   | exact ih0 _ _ _ _ _ _ _
   | exact bits_Uvarint.mono _ _ _
   | exact LeO.none _
   | refine LeO.ite ?_ ?_
   | refine LeO.bind ?_ (fun _=>?_)
set_option maxHeartbeats 8000000 in
set_option maxRecDepth 100000 in
theorem bits_Reader_Varint.calls (k : Nat) (g : Nat) (s0_0 : ByteArray) (s0_1 : Int) (s0_2 : Int) (a1 : Int) (r1 : Int) (r2 : ByteArray) (r3 : Int) (r4 : Int) (w0 w : World) (hI : IsS81 w0 w g s0_0 s0_1 s0_2) (hB : Below w0.heap.size w0 w) (h : bits_Reader_Varint.f k s0_0 s0_1 s0_2 a1 = some (r1, r2, r3, r4)) :
  Calls Try.prog 34 #[.pointer (some ⟨g,0,none⟩),.int .u64 a1] w fun e w'=>e = .returned (.int .u64 r1) ∧ IsS81 w0 w' g r2 r3 r4 ∧ Below w0.heap.size w0 w' ∧ KeepBut w w' g none := by
 have HI0 := Aside0.mk hI
 have HK := Aside0.mk (KeepBut.refl w g none)
 have HL := Aside0.mk hB.size
 clear hI
 have HW0 := Aside0.mk hB.size
 have HB := Aside0.mk hB
 clear hB
 have H : ((bits_Reader_good.f s0_0 s0_1 s0_2).bind fun bt105=>(if bt105.1 = true then ((bits_Uvarint.f k bt105.2.1 bt105.2.2.1).bind fun bt109=>(if bt109.2.2 = 0 then (bits_Reader_Varint.j0 k bt109.1 bt109.2.1 bt109.2.2 (decide (bt109.1 > a1)) bt105.2.1 bt105.2.2.1 bt105.2.2.2) else (bits_Reader_Varint.j0 k bt109.1 bt109.2.1 bt109.2.2 false bt105.2.1 bt105.2.2.1 bt105.2.2.2))) else (some (0,bt105.2.1,bt105.2.2.1,bt105.2.2.2)))) = some (r1,r2,r3,r4) := h
 clear h
 replace H := Option.bind_eq_some_iff.mp H
 obtain ⟨⟨t105,t106,t107,t108⟩,A30,H⟩ := H
 replace H : (if t105 = true then ((bits_Uvarint.f k t106 t107).bind fun bt109=>(if bt109.2.2 = 0 then (bits_Reader_Varint.j0 k bt109.1 bt109.2.1 bt109.2.2 (decide (bt109.1 > a1)) t106 t107 t108) else (bits_Reader_Varint.j0 k bt109.1 bt109.2.1 bt109.2.2 false t106 t107 t108))) else (some (0,t106,t107,t108))) = some (r1,r2,r3,r4) := H
 have A3 := Aside0.mk A30
 clear A30
 by_cases c4 : t105 = true
 ·subst c4
  have H1 : ((bits_Uvarint.f k t106 t107).bind fun bt109=>(if bt109.2.2 = 0 then (bits_Reader_Varint.j0 k bt109.1 bt109.2.1 bt109.2.2 (decide (bt109.1 > a1)) t106 t107 t108) else (bits_Reader_Varint.j0 k bt109.1 bt109.2.1 bt109.2.2 false t106 t107 t108))) = some (r1,r2,r3,r4) := by rw [if_pos rfl] at H;exact H
  clear H
  have H := H1
  clear H1
  replace H := Option.bind_eq_some_iff.mp H
  obtain ⟨⟨t109,t110,t111⟩,A50,H⟩ := H
  replace H : (if t111 = 0 then (bits_Reader_Varint.j0 k t109 t110 t111 (decide (t109 > a1)) t106 t107 t108) else (bits_Reader_Varint.j0 k t109 t110 t111 false t106 t107 t108)) = some (r1,r2,r3,r4) := H
  have A5 := Aside0.mk A50
  clear A50
  have HC6 := Aside0.mk H
  clear H
  go_enter Try.func34,Try.ntmps34
  go_upto_region 4 with (first|(go_at_call 50;(with_reducible refine (bits_Reader_good.calls g s0_0 s0_1 s0_2 true t106 t107 t108 w0 _ ?side1 ?side2 A3.out).mono ?_);(case side1=>repeat (first|(with_reducible first|exact HI0.out|apply IsS81.alloc|apply IsS81.drewN|apply IsS81.drew|apply IsS81.set_0|apply IsS81.set_1|apply IsS81.set_2)|exact HI0.out));(case side2=>repeat (first|(with_reducible first|exact HB.out|apply below_alloc|apply pw_below_drewN|apply below_drew1|refine below_set ?_ (IsS81.ge HI0.out))|exact HB.out));rintro e w7 ⟨rfl,hi,hb,hk⟩;have n0_ := Aside0.mk (KeepBut.trans q2_ hk (.inl rfl));have n1_ := Aside0.mk (hb);have n2_ := Aside0.mk (hi);clear HK;clear HB;clear HI0;have HK := n0_;have HB := n1_;have HI0 := n2_;clear n0_ n1_ n2_;(try clear hb);(try clear hb2);(try clear hk);(try clear hi);obtain ⟨HGz8,hgz8⟩ := HI0.out;have hcz8_0 := cellS81_0 HGz8;have hcz8_1 := cellS81_1 HGz8;have hcz8_2 := cellS81_2 HGz8;have hfz8_0 := blk_frozen HGz8 0;have hfz8_1 := blk_frozen HGz8 1;have hfz8_2 := blk_frozen HGz8 2;clear HGz8 hgz8)|(go_at_call 47;(with_reducible refine (bits_Uvarint.calls k t106 t107 t109 t110 t111 _ A5.out).mono ?_);rintro e w' ⟨rfl,⟨nd,rfl⟩⟩;(try first|exact ⟨rfl,_,World.drewN_drewN _ _ _⟩|exact ⟨rfl,_,Eq.trans (World.drewN_drewN _ _ _) (congrArg (World.drewN _) (Nat.add_assoc _ _ _))⟩)))
  repeat (go_quiet (first|(go_at_call 50;(with_reducible refine (bits_Reader_good.calls g s0_0 s0_1 s0_2 true t106 t107 t108 w0 _ ?side1 ?side2 A3.out).mono ?_);(case side1=>repeat (first|(with_reducible first|exact HI0.out|apply IsS81.alloc|apply IsS81.drewN|apply IsS81.drew|apply IsS81.set_0|apply IsS81.set_1|apply IsS81.set_2)|exact HI0.out));(case side2=>repeat (first|(with_reducible first|exact HB.out|apply below_alloc|apply pw_below_drewN|apply below_drew1|refine below_set ?_ (IsS81.ge HI0.out))|exact HB.out));rintro e w7 ⟨rfl,hi,hb,hk⟩;have n0_ := Aside0.mk (KeepBut.trans q2_ hk (.inl rfl));have n1_ := Aside0.mk (hb);have n2_ := Aside0.mk (hi);clear HK;clear HB;clear HI0;have HK := n0_;have HB := n1_;have HI0 := n2_;clear n0_ n1_ n2_;(try clear hb);(try clear hb2);(try clear hk);(try clear hi);obtain ⟨HGz8,hgz8⟩ := HI0.out;have hcz8_0 := cellS81_0 HGz8;have hcz8_1 := cellS81_1 HGz8;have hcz8_2 := cellS81_2 HGz8;have hfz8_0 := blk_frozen HGz8 0;have hfz8_1 := blk_frozen HGz8 1;have hfz8_2 := blk_frozen HGz8 2;clear HGz8 hgz8)|(go_at_call 47;(with_reducible refine (bits_Uvarint.calls k t106 t107 t109 t110 t111 _ A5.out).mono ?_);rintro e w' ⟨rfl,⟨nd,rfl⟩⟩;(try first|exact ⟨rfl,_,World.drewN_drewN _ _ _⟩|exact ⟨rfl,_,Eq.trans (World.drewN_drewN _ _ _) (congrArg (World.drewN _) (Nat.add_assoc _ _ _))⟩)));go_upto_region 4 with (first|(go_at_call 50;(with_reducible refine (bits_Reader_good.calls g s0_0 s0_1 s0_2 true t106 t107 t108 w0 _ ?side1 ?side2 A3.out).mono ?_);(case side1=>repeat (first|(with_reducible first|exact HI0.out|apply IsS81.alloc|apply IsS81.drewN|apply IsS81.drew|apply IsS81.set_0|apply IsS81.set_1|apply IsS81.set_2)|exact HI0.out));(case side2=>repeat (first|(with_reducible first|exact HB.out|apply below_alloc|apply pw_below_drewN|apply below_drew1|refine below_set ?_ (IsS81.ge HI0.out))|exact HB.out));rintro e w7 ⟨rfl,hi,hb,hk⟩;have n0_ := Aside0.mk (KeepBut.trans q2_ hk (.inl rfl));have n1_ := Aside0.mk (hb);have n2_ := Aside0.mk (hi);clear HK;clear HB;clear HI0;have HK := n0_;have HB := n1_;have HI0 := n2_;clear n0_ n1_ n2_;(try clear hb);(try clear hb2);(try clear hk);(try clear hi);obtain ⟨HGz8,hgz8⟩ := HI0.out;have hcz8_0 := cellS81_0 HGz8;have hcz8_1 := cellS81_1 HGz8;have hcz8_2 := cellS81_2 HGz8;have hfz8_0 := blk_frozen HGz8 0;have hfz8_1 := blk_frozen HGz8 1;have hfz8_2 := blk_frozen HGz8 2;clear HGz8 hgz8)|(go_at_call 47;(with_reducible refine (bits_Uvarint.calls k t106 t107 t109 t110 t111 _ A5.out).mono ?_);rintro e w' ⟨rfl,⟨nd,rfl⟩⟩;(try first|exact ⟨rfl,_,World.drewN_drewN _ _ _⟩|exact ⟨rfl,_,Eq.trans (World.drewN_drewN _ _ _) (congrArg (World.drewN _) (Nat.add_assoc _ _ _))⟩))))
  (try simp only [Act.put,List.setIfInBounds_toArray,List.set_cons_zero,List.set_cons_succ])
  go_cut [30] (fun v30 wc=>∃ (kq : Nat) (x30_5 : Bool),v30 = .bool x30_5 ∧ Aside0 (bits_Reader_Varint.j0 kq t109 t110 t111 x30_5 t106 t107 t108 = some (r1,r2,r3,r4)) ∧ Aside0 (kq ≤ k) ∧ Aside0 (IsS81 w0 wc g t106 t107 t108) ∧ Aside0 (KeepBut w wc g none) ∧ Aside0 (Below w0.heap.size w0 wc))
  case first =>
   have H := HC6.out
   clear HC6
   by_cases c9 : t111 = 0
   ·rw [if_pos c9] at H
    have c9b0 : (t111 == 0) = true := beq_iff_eq.mpr c9
    have c9b1 : (t111 != 0) = false := bne_eq_false_iff_eq.mpr c9
    clear c9
    (first|rw [c9b0]|(simp only [i64_w,i32_w];rw [c9b0])|skip)
    have H' := Aside0.mk H
    clear H
    go_wp2
    repeat (go_quiet (fail);try go_wp2)
    go_meet
    case rel=>exact ⟨_,(decide (t109 > a1)),q4_,H',⟨q50_⟩,⟨q11_⟩,⟨q2_⟩,⟨q13_⟩⟩
   ·rw [if_neg c9] at H
    have c9b0 : (t111 == 0) = false := beq_eq_false_iff_ne.mpr c9
    have c9b1 : (t111 != 0) = true := bne_iff_ne.mpr c9
    (first|rw [c9b0]|(simp only [i64_w,i32_w];rw [c9b0])|skip)
    have H' := Aside0.mk H
    clear H
    go_wp2
    repeat (go_quiet (fail);try go_wp2)
    go_meet
    case rel=>exact ⟨_,(false),q4_,H',⟨q50_⟩,⟨q11_⟩,⟨q2_⟩,⟨q13_⟩⟩
  case rest =>
   clear HC6
   try clear p2
   try clear c3
   try clear c4
   try clear c9
   try clear c9b0
   try clear c9b1
   try clear hcz8_0
   try clear hcz8_1
   try clear hcz8_2
   try clear hfz8_0
   try clear hfz8_1
   try clear hfz8_2
   obtain ⟨kq,x30_5,rfl,HA,HJ5,HI0,HK,HB⟩ := hcut
   cases kq with
   | zero=>exact absurd HA.out (by simp [bits_Reader_Varint.j0])
   | succ kj5 =>
    have H := HA.out
    clear HA
    simp only [bits_Reader_Varint.j0] at H
    by_cases c10 : x30_5 = true
    ·subst c10
     have H1 : ((bits_Reader_take.f t106 t107 t108 t110 40).bind fun bt112=>(if bt112.1 = true then (some (t109,bt112.2.1,bt112.2.2.1,bt112.2.2.2)) else (some (0,bt112.2.1,bt112.2.2.1,bt112.2.2.2)))) = some (r1,r2,r3,r4) := by rw [if_pos rfl] at H;exact H
     clear H
     have H := H1
     clear H1
     replace H := Option.bind_eq_some_iff.mp H
     obtain ⟨⟨t112,t113,t114,t115⟩,A110,H⟩ := H
     replace H : (if t112 = true then (some (t109,t113,t114,t115)) else (some (0,t113,t114,t115))) = some (r1,r2,r3,r4) := H
     have A11 := Aside0.mk A110
     clear A110
     by_cases c12 : t112 = true
     ·subst c12
      have H1 : (some (t109,t113,t114,t115)) = some (r1,r2,r3,r4) := by rw [if_pos rfl] at H;exact H
      clear H
      have H := H1
      clear H1
      simp only [Option.some.injEq,Prod.mk.injEq] at H
      obtain ⟨rfl,rfl,rfl,rfl⟩ := H
      go_wp2_with (first|(go_at_call 51;(with_reducible refine (bits_Reader_take.calls g t106 t107 t108 t110 40 true t113 t114 t115 w0 _ ?side1 ?side2 A11.out).mono ?_);(case side1=>repeat (first|(with_reducible first|exact HI0.out|apply IsS81.alloc|apply IsS81.drewN|apply IsS81.drew|apply IsS81.set_0|apply IsS81.set_1|apply IsS81.set_2)|exact HI0.out));(case side2=>repeat (first|(with_reducible first|exact HB.out|apply below_alloc|apply pw_below_drewN|apply below_drew1|refine below_set ?_ (IsS81.ge HI0.out))|exact HB.out));rintro e w13 ⟨rfl,hi,hb,hk⟩;have n0_ := Aside0.mk (KeepBut.trans q2_ hk (.inl rfl));have n1_ := Aside0.mk (hb);have n2_ := Aside0.mk (hi);clear HK;clear HB;clear HI0;have HK := n0_;have HB := n1_;have HI0 := n2_;clear n0_ n1_ n2_;(try clear hb);(try clear hb2);(try clear hk);(try clear hi)))
      repeat (go_quiet (first|(go_at_call 51;(with_reducible refine (bits_Reader_take.calls g t106 t107 t108 t110 40 true t113 t114 t115 w0 _ ?side1 ?side2 A11.out).mono ?_);(case side1=>repeat (first|(with_reducible first|exact HI0.out|apply IsS81.alloc|apply IsS81.drewN|apply IsS81.drew|apply IsS81.set_0|apply IsS81.set_1|apply IsS81.set_2)|exact HI0.out));(case side2=>repeat (first|(with_reducible first|exact HB.out|apply below_alloc|apply pw_below_drewN|apply below_drew1|refine below_set ?_ (IsS81.ge HI0.out))|exact HB.out));rintro e w13 ⟨rfl,hi,hb,hk⟩;have n0_ := Aside0.mk (KeepBut.trans q2_ hk (.inl rfl));have n1_ := Aside0.mk (hb);have n2_ := Aside0.mk (hi);clear HK;clear HB;clear HI0;have HK := n0_;have HB := n1_;have HI0 := n2_;clear n0_ n1_ n2_;(try clear hb);(try clear hb2);(try clear hk);(try clear hi)));try go_wp2_with (first|(go_at_call 51;(with_reducible refine (bits_Reader_take.calls g t106 t107 t108 t110 40 true t113 t114 t115 w0 _ ?side1 ?side2 A11.out).mono ?_);(case side1=>repeat (first|(with_reducible first|exact HI0.out|apply IsS81.alloc|apply IsS81.drewN|apply IsS81.drew|apply IsS81.set_0|apply IsS81.set_1|apply IsS81.set_2)|exact HI0.out));(case side2=>repeat (first|(with_reducible first|exact HB.out|apply below_alloc|apply pw_below_drewN|apply below_drew1|refine below_set ?_ (IsS81.ge HI0.out))|exact HB.out));rintro e w13 ⟨rfl,hi,hb,hk⟩;have n0_ := Aside0.mk (KeepBut.trans q2_ hk (.inl rfl));have n1_ := Aside0.mk (hb);have n2_ := Aside0.mk (hi);clear HK;clear HB;clear HI0;have HK := n0_;have HB := n1_;have HI0 := n2_;clear n0_ n1_ n2_;(try clear hb);(try clear hb2);(try clear hk);(try clear hi))))
      go_ret
      exact ⟨q1_,q11_,q13_,q2_⟩
     ·replace c12 := Bool.eq_false_iff.mpr c12
      subst c12
      have H1 : (some (0,t113,t114,t115)) = some (r1,r2,r3,r4) := by rw [if_neg (show ¬ (false = true) by decide)] at H;exact H
      clear H
      have H := H1
      clear H1
      simp only [Option.some.injEq,Prod.mk.injEq] at H
      obtain ⟨rfl,rfl,rfl,rfl⟩ := H
      go_wp2_with (first|(go_at_call 51;(with_reducible refine (bits_Reader_take.calls g t106 t107 t108 t110 40 false t113 t114 t115 w0 _ ?side1 ?side2 A11.out).mono ?_);(case side1=>repeat (first|(with_reducible first|exact HI0.out|apply IsS81.alloc|apply IsS81.drewN|apply IsS81.drew|apply IsS81.set_0|apply IsS81.set_1|apply IsS81.set_2)|exact HI0.out));(case side2=>repeat (first|(with_reducible first|exact HB.out|apply below_alloc|apply pw_below_drewN|apply below_drew1|refine below_set ?_ (IsS81.ge HI0.out))|exact HB.out));rintro e w14 ⟨rfl,hi,hb,hk⟩;have n0_ := Aside0.mk (KeepBut.trans q2_ hk (.inl rfl));have n1_ := Aside0.mk (hb);have n2_ := Aside0.mk (hi);clear HK;clear HB;clear HI0;have HK := n0_;have HB := n1_;have HI0 := n2_;clear n0_ n1_ n2_;(try clear hb);(try clear hb2);(try clear hk);(try clear hi)))
      repeat (go_quiet (first|(go_at_call 51;(with_reducible refine (bits_Reader_take.calls g t106 t107 t108 t110 40 false t113 t114 t115 w0 _ ?side1 ?side2 A11.out).mono ?_);(case side1=>repeat (first|(with_reducible first|exact HI0.out|apply IsS81.alloc|apply IsS81.drewN|apply IsS81.drew|apply IsS81.set_0|apply IsS81.set_1|apply IsS81.set_2)|exact HI0.out));(case side2=>repeat (first|(with_reducible first|exact HB.out|apply below_alloc|apply pw_below_drewN|apply below_drew1|refine below_set ?_ (IsS81.ge HI0.out))|exact HB.out));rintro e w14 ⟨rfl,hi,hb,hk⟩;have n0_ := Aside0.mk (KeepBut.trans q2_ hk (.inl rfl));have n1_ := Aside0.mk (hb);have n2_ := Aside0.mk (hi);clear HK;clear HB;clear HI0;have HK := n0_;have HB := n1_;have HI0 := n2_;clear n0_ n1_ n2_;(try clear hb);(try clear hb2);(try clear hk);(try clear hi)));try go_wp2_with (first|(go_at_call 51;(with_reducible refine (bits_Reader_take.calls g t106 t107 t108 t110 40 false t113 t114 t115 w0 _ ?side1 ?side2 A11.out).mono ?_);(case side1=>repeat (first|(with_reducible first|exact HI0.out|apply IsS81.alloc|apply IsS81.drewN|apply IsS81.drew|apply IsS81.set_0|apply IsS81.set_1|apply IsS81.set_2)|exact HI0.out));(case side2=>repeat (first|(with_reducible first|exact HB.out|apply below_alloc|apply pw_below_drewN|apply below_drew1|refine below_set ?_ (IsS81.ge HI0.out))|exact HB.out));rintro e w14 ⟨rfl,hi,hb,hk⟩;have n0_ := Aside0.mk (KeepBut.trans q2_ hk (.inl rfl));have n1_ := Aside0.mk (hb);have n2_ := Aside0.mk (hi);clear HK;clear HB;clear HI0;have HK := n0_;have HB := n1_;have HI0 := n2_;clear n0_ n1_ n2_;(try clear hb);(try clear hb2);(try clear hk);(try clear hi))))
      go_ret
      exact ⟨q1_,q11_,q13_,q2_⟩
    ·replace c10 := Bool.eq_false_iff.mpr c10
     subst c10
     have H1 : ((bits_Reader_take.f t106 t107 t108 t110 t111).bind fun bt116=>(if bt116.1 = true then (some (t109,bt116.2.1,bt116.2.2.1,bt116.2.2.2)) else (some (0,bt116.2.1,bt116.2.2.1,bt116.2.2.2)))) = some (r1,r2,r3,r4) := by rw [if_neg (show ¬ (false = true) by decide)] at H;exact H
     clear H
     have H := H1
     clear H1
     replace H := Option.bind_eq_some_iff.mp H
     obtain ⟨⟨t116,t117,t118,t119⟩,A150,H⟩ := H
     replace H : (if t116 = true then (some (t109,t117,t118,t119)) else (some (0,t117,t118,t119))) = some (r1,r2,r3,r4) := H
     have A15 := Aside0.mk A150
     clear A150
     by_cases c16 : t116 = true
     ·subst c16
      have H1 : (some (t109,t117,t118,t119)) = some (r1,r2,r3,r4) := by rw [if_pos rfl] at H;exact H
      clear H
      have H := H1
      clear H1
      simp only [Option.some.injEq,Prod.mk.injEq] at H
      obtain ⟨rfl,rfl,rfl,rfl⟩ := H
      go_wp2_with (first|(go_at_call 51;(with_reducible refine (bits_Reader_take.calls g t106 t107 t108 t110 t111 true t117 t118 t119 w0 _ ?side1 ?side2 A15.out).mono ?_);(case side1=>repeat (first|(with_reducible first|exact HI0.out|apply IsS81.alloc|apply IsS81.drewN|apply IsS81.drew|apply IsS81.set_0|apply IsS81.set_1|apply IsS81.set_2)|exact HI0.out));(case side2=>repeat (first|(with_reducible first|exact HB.out|apply below_alloc|apply pw_below_drewN|apply below_drew1|refine below_set ?_ (IsS81.ge HI0.out))|exact HB.out));rintro e w17 ⟨rfl,hi,hb,hk⟩;have n0_ := Aside0.mk (KeepBut.trans q2_ hk (.inl rfl));have n1_ := Aside0.mk (hb);have n2_ := Aside0.mk (hi);clear HK;clear HB;clear HI0;have HK := n0_;have HB := n1_;have HI0 := n2_;clear n0_ n1_ n2_;(try clear hb);(try clear hb2);(try clear hk);(try clear hi)))
      repeat (go_quiet (first|(go_at_call 51;(with_reducible refine (bits_Reader_take.calls g t106 t107 t108 t110 t111 true t117 t118 t119 w0 _ ?side1 ?side2 A15.out).mono ?_);(case side1=>repeat (first|(with_reducible first|exact HI0.out|apply IsS81.alloc|apply IsS81.drewN|apply IsS81.drew|apply IsS81.set_0|apply IsS81.set_1|apply IsS81.set_2)|exact HI0.out));(case side2=>repeat (first|(with_reducible first|exact HB.out|apply below_alloc|apply pw_below_drewN|apply below_drew1|refine below_set ?_ (IsS81.ge HI0.out))|exact HB.out));rintro e w17 ⟨rfl,hi,hb,hk⟩;have n0_ := Aside0.mk (KeepBut.trans q2_ hk (.inl rfl));have n1_ := Aside0.mk (hb);have n2_ := Aside0.mk (hi);clear HK;clear HB;clear HI0;have HK := n0_;have HB := n1_;have HI0 := n2_;clear n0_ n1_ n2_;(try clear hb);(try clear hb2);(try clear hk);(try clear hi)));try go_wp2_with (first|(go_at_call 51;(with_reducible refine (bits_Reader_take.calls g t106 t107 t108 t110 t111 true t117 t118 t119 w0 _ ?side1 ?side2 A15.out).mono ?_);(case side1=>repeat (first|(with_reducible first|exact HI0.out|apply IsS81.alloc|apply IsS81.drewN|apply IsS81.drew|apply IsS81.set_0|apply IsS81.set_1|apply IsS81.set_2)|exact HI0.out));(case side2=>repeat (first|(with_reducible first|exact HB.out|apply below_alloc|apply pw_below_drewN|apply below_drew1|refine below_set ?_ (IsS81.ge HI0.out))|exact HB.out));rintro e w17 ⟨rfl,hi,hb,hk⟩;have n0_ := Aside0.mk (KeepBut.trans q2_ hk (.inl rfl));have n1_ := Aside0.mk (hb);have n2_ := Aside0.mk (hi);clear HK;clear HB;clear HI0;have HK := n0_;have HB := n1_;have HI0 := n2_;clear n0_ n1_ n2_;(try clear hb);(try clear hb2);(try clear hk);(try clear hi))))
      go_ret
      exact ⟨q1_,q11_,q13_,q2_⟩
     ·replace c16 := Bool.eq_false_iff.mpr c16
      subst c16
      have H1 : (some (0,t117,t118,t119)) = some (r1,r2,r3,r4) := by rw [if_neg (show ¬ (false = true) by decide)] at H;exact H
      clear H
      have H := H1
      clear H1
      simp only [Option.some.injEq,Prod.mk.injEq] at H
      obtain ⟨rfl,rfl,rfl,rfl⟩ := H
      go_wp2_with (first|(go_at_call 51;(with_reducible refine (bits_Reader_take.calls g t106 t107 t108 t110 t111 false t117 t118 t119 w0 _ ?side1 ?side2 A15.out).mono ?_);(case side1=>repeat (first|(with_reducible first|exact HI0.out|apply IsS81.alloc|apply IsS81.drewN|apply IsS81.drew|apply IsS81.set_0|apply IsS81.set_1|apply IsS81.set_2)|exact HI0.out));(case side2=>repeat (first|(with_reducible first|exact HB.out|apply below_alloc|apply pw_below_drewN|apply below_drew1|refine below_set ?_ (IsS81.ge HI0.out))|exact HB.out));rintro e w18 ⟨rfl,hi,hb,hk⟩;have n0_ := Aside0.mk (KeepBut.trans q2_ hk (.inl rfl));have n1_ := Aside0.mk (hb);have n2_ := Aside0.mk (hi);clear HK;clear HB;clear HI0;have HK := n0_;have HB := n1_;have HI0 := n2_;clear n0_ n1_ n2_;(try clear hb);(try clear hb2);(try clear hk);(try clear hi)))
      repeat (go_quiet (first|(go_at_call 51;(with_reducible refine (bits_Reader_take.calls g t106 t107 t108 t110 t111 false t117 t118 t119 w0 _ ?side1 ?side2 A15.out).mono ?_);(case side1=>repeat (first|(with_reducible first|exact HI0.out|apply IsS81.alloc|apply IsS81.drewN|apply IsS81.drew|apply IsS81.set_0|apply IsS81.set_1|apply IsS81.set_2)|exact HI0.out));(case side2=>repeat (first|(with_reducible first|exact HB.out|apply below_alloc|apply pw_below_drewN|apply below_drew1|refine below_set ?_ (IsS81.ge HI0.out))|exact HB.out));rintro e w18 ⟨rfl,hi,hb,hk⟩;have n0_ := Aside0.mk (KeepBut.trans q2_ hk (.inl rfl));have n1_ := Aside0.mk (hb);have n2_ := Aside0.mk (hi);clear HK;clear HB;clear HI0;have HK := n0_;have HB := n1_;have HI0 := n2_;clear n0_ n1_ n2_;(try clear hb);(try clear hb2);(try clear hk);(try clear hi)));try go_wp2_with (first|(go_at_call 51;(with_reducible refine (bits_Reader_take.calls g t106 t107 t108 t110 t111 false t117 t118 t119 w0 _ ?side1 ?side2 A15.out).mono ?_);(case side1=>repeat (first|(with_reducible first|exact HI0.out|apply IsS81.alloc|apply IsS81.drewN|apply IsS81.drew|apply IsS81.set_0|apply IsS81.set_1|apply IsS81.set_2)|exact HI0.out));(case side2=>repeat (first|(with_reducible first|exact HB.out|apply below_alloc|apply pw_below_drewN|apply below_drew1|refine below_set ?_ (IsS81.ge HI0.out))|exact HB.out));rintro e w18 ⟨rfl,hi,hb,hk⟩;have n0_ := Aside0.mk (KeepBut.trans q2_ hk (.inl rfl));have n1_ := Aside0.mk (hb);have n2_ := Aside0.mk (hi);clear HK;clear HB;clear HI0;have HK := n0_;have HB := n1_;have HI0 := n2_;clear n0_ n1_ n2_;(try clear hb);(try clear hb2);(try clear hk);(try clear hi))))
      go_ret
      exact ⟨q1_,q11_,q13_,q2_⟩
 ·replace c4 := Bool.eq_false_iff.mpr c4
  subst c4
  have H1 : (some (0,t106,t107,t108)) = some (r1,r2,r3,r4) := by rw [if_neg (show ¬ (false = true) by decide)] at H;exact H
  clear H
  have H := H1
  clear H1
  simp only [Option.some.injEq,Prod.mk.injEq] at H
  obtain ⟨rfl,rfl,rfl,rfl⟩ := H
  go_enter Try.func34,Try.ntmps34
  go_wp2_with (first|(go_at_call 50;(with_reducible refine (bits_Reader_good.calls g s0_0 s0_1 s0_2 false t106 t107 t108 w0 _ ?side1 ?side2 A3.out).mono ?_);(case side1=>repeat (first|(with_reducible first|exact HI0.out|apply IsS81.alloc|apply IsS81.drewN|apply IsS81.drew|apply IsS81.set_0|apply IsS81.set_1|apply IsS81.set_2)|exact HI0.out));(case side2=>repeat (first|(with_reducible first|exact HB.out|apply below_alloc|apply pw_below_drewN|apply below_drew1|refine below_set ?_ (IsS81.ge HI0.out))|exact HB.out));rintro e w19 ⟨rfl,hi,hb,hk⟩;have n0_ := Aside0.mk (KeepBut.trans q2_ hk (.inl rfl));have n1_ := Aside0.mk (hb);have n2_ := Aside0.mk (hi);clear HK;clear HB;clear HI0;have HK := n0_;have HB := n1_;have HI0 := n2_;clear n0_ n1_ n2_;(try clear hb);(try clear hb2);(try clear hk);(try clear hi)))
  repeat (go_quiet (first|(go_at_call 50;(with_reducible refine (bits_Reader_good.calls g s0_0 s0_1 s0_2 false t106 t107 t108 w0 _ ?side1 ?side2 A3.out).mono ?_);(case side1=>repeat (first|(with_reducible first|exact HI0.out|apply IsS81.alloc|apply IsS81.drewN|apply IsS81.drew|apply IsS81.set_0|apply IsS81.set_1|apply IsS81.set_2)|exact HI0.out));(case side2=>repeat (first|(with_reducible first|exact HB.out|apply below_alloc|apply pw_below_drewN|apply below_drew1|refine below_set ?_ (IsS81.ge HI0.out))|exact HB.out));rintro e w19 ⟨rfl,hi,hb,hk⟩;have n0_ := Aside0.mk (KeepBut.trans q2_ hk (.inl rfl));have n1_ := Aside0.mk (hb);have n2_ := Aside0.mk (hi);clear HK;clear HB;clear HI0;have HK := n0_;have HB := n1_;have HI0 := n2_;clear n0_ n1_ n2_;(try clear hb);(try clear hb2);(try clear hk);(try clear hi)));try go_wp2_with (first|(go_at_call 50;(with_reducible refine (bits_Reader_good.calls g s0_0 s0_1 s0_2 false t106 t107 t108 w0 _ ?side1 ?side2 A3.out).mono ?_);(case side1=>repeat (first|(with_reducible first|exact HI0.out|apply IsS81.alloc|apply IsS81.drewN|apply IsS81.drew|apply IsS81.set_0|apply IsS81.set_1|apply IsS81.set_2)|exact HI0.out));(case side2=>repeat (first|(with_reducible first|exact HB.out|apply below_alloc|apply pw_below_drewN|apply below_drew1|refine below_set ?_ (IsS81.ge HI0.out))|exact HB.out));rintro e w19 ⟨rfl,hi,hb,hk⟩;have n0_ := Aside0.mk (KeepBut.trans q2_ hk (.inl rfl));have n1_ := Aside0.mk (hb);have n2_ := Aside0.mk (hi);clear HK;clear HB;clear HI0;have HK := n0_;have HB := n1_;have HI0 := n2_;clear n0_ n1_ n2_;(try clear hb);(try clear hb2);(try clear hk);(try clear hi))))
  go_ret
  exact ⟨q1_,q11_,q13_,q2_⟩

end Go.Proofs.Ythcjcmgdblhhfaa.PV

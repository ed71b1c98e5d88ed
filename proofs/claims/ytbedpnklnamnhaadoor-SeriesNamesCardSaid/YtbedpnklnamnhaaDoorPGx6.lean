/- The machine side of these statements: what each Go function computes as a plain function, and that its call computes just that. Written by a program of mine (wip/drive.py). No conditions. -/
import Derived.Test.YtbedpnklnamnhaaDoorPGx0
import Derived.Test.YtbedpnklnamnhaaDoorPGx2
import Derived.Test.YtbedpnklnamnhaaDoorPGx4
import Derived.Test.YtbedpnklnamnhaaDoorPGx5
namespace Go.Proofs.YtbedpnklnamnhaaDoor.PG
open Go.RowKit Go.Proofs.YtbedpnklnamnhaaDoorW.PrintWords Go.Proofs.YtbedpnklnamnhaaDoorW.PrintLast Go.Proofs.YtbedpnklnamnhaaDoorW.PrintMore
attribute [local go_sem] max2_int min2_int max_two min_two max_three min_three max_four min_four   -- for this text's walks alone
set_option linter.unusedVariables false
set_option linter.unusedSimpArgs false

attribute [local go_sem high] eqA40
/-! ### series_Between: function 6 -/
def series_Between.f (k : Nat) (l0 : List (S40)) (a1 : Int) (a2 : Int) : Option ((List (S40)) × Int) := (series_May.f k l0).bind fun t105 => (if t105 = true then ((series_place.f l0 a1).bind fun bt106 => ((series_place.f l0 a2).bind fun bt108 => (if 0 ≤ bt106.1 then (if bt106.1 ≤ (mx bt106.1 bt108.1) then (if (mx bt106.1 bt108.1) ≤ (l0.length : Int) then ((slices_Clone.f ((l0.take ((mx bt106.1 bt108.1) : Int).toNat).drop (bt106.1 : Int).toNat)).bind fun t114 => (some (t114, 0))) else (none)) else (none)) else (none)))) else (some (([] : List (S40)), 4)))
theorem series_Between.mono : ∀ a0 a1 a2 k, LeO (series_Between.f k a0 a1 a2) (series_Between.f (k + 1) a0 a1 a2) := by
 intro a0 a1 a2 k
 unfold series_Between.f
 repeat' first
   | (with_reducible exact series_May.mono _ _)
   | (with_reducible exact LeO.refl _)
   | (with_reducible exact LeO.none _)
   | (with_reducible refine LeO.ite ?_ ?_)
   | (with_reducible refine LeO.bind ?_ (fun _=>?_))
   | exact series_May.mono _ _
   | exact LeO.none _
   | refine LeO.ite ?_ ?_
   | refine LeO.bind ?_ (fun _=>?_)
set_option maxHeartbeats 8000000 in
set_option maxRecDepth 100000 in
theorem series_Between.calls (k : Nat) (A0 : Option Addr) (c0 : Nat) (l0 : List (S40)) (a1 : Int) (a2 : Int) (r1 : List (S40)) (r2 : Int) (w : World) (hr0 : Kd.C k40 w A0 l0.length l0) (hc0 : l0.length ≤ c0) (h : series_Between.f k l0 a1 a2 = some (r1, r2)) :
  Calls Tryd.prog 6 #[.slice A0 l0.length c0,.int .i64 a1,.int .i64 a2] w fun e w'=>∃ v0_ : Value,e = .returned (.tuple #[v0_,.int .i64 r2]) ∧ Kd.R k40 40 w' w.heap.size (fun _=>True) v0_ r1 ∧ Below w.heap.size w w' := by
 have HR0 := Aside0.mk hr0
 have HC0 := Aside0.mk hc0
 clear hr0 hc0
 have HB := Aside0.mk (Below.refl w.heap.size w)
 have H : ((series_May.f k l0).bind fun t105=>(if t105 = true then ((series_place.f l0 a1).bind fun bt106=>((series_place.f l0 a2).bind fun bt108=>(if 0 ≤ bt106.1 then (if bt106.1 ≤ (mx bt106.1 bt108.1) then (if (mx bt106.1 bt108.1) ≤ (l0.length : Int) then ((slices_Clone.f ((l0.take ((mx bt106.1 bt108.1) : Int).toNat).drop (bt106.1 : Int).toNat)).bind fun t114=>(some (t114,0))) else (none)) else (none)) else (none)))) else (some (([] : List (S40)),4)))) = some (r1,r2) := h
 clear h
 replace H := Option.bind_eq_some_iff.mp H
 obtain ⟨t105,A40,H⟩ := H
 replace H : (if t105 = true then ((series_place.f l0 a1).bind fun bt106=>((series_place.f l0 a2).bind fun bt108=>(if 0 ≤ bt106.1 then (if bt106.1 ≤ (mx bt106.1 bt108.1) then (if (mx bt106.1 bt108.1) ≤ (l0.length : Int) then ((slices_Clone.f ((l0.take ((mx bt106.1 bt108.1) : Int).toNat).drop (bt106.1 : Int).toNat)).bind fun t114=>(some (t114,0))) else (none)) else (none)) else (none)))) else (some (([] : List (S40)),4))) = some (r1,r2) := H
 have A4 := Aside0.mk A40
 clear A40
 by_cases c5 : t105 = true
 ·subst c5
  have H1 : ((series_place.f l0 a1).bind fun bt106=>((series_place.f l0 a2).bind fun bt108=>(if 0 ≤ bt106.1 then (if bt106.1 ≤ (mx bt106.1 bt108.1) then (if (mx bt106.1 bt108.1) ≤ (l0.length : Int) then ((slices_Clone.f ((l0.take ((mx bt106.1 bt108.1) : Int).toNat).drop (bt106.1 : Int).toNat)).bind fun t114=>(some (t114,0))) else (none)) else (none)) else (none)))) = some (r1,r2) := by rw [if_pos rfl] at H;exact H
  clear H
  have H := H1
  clear H1
  replace H := Option.bind_eq_some_iff.mp H
  obtain ⟨⟨t106,t107⟩,A60,H⟩ := H
  replace H : ((series_place.f l0 a2).bind fun bt108=>(if 0 ≤ t106 then (if t106 ≤ (mx t106 bt108.1) then (if (mx t106 bt108.1) ≤ (l0.length : Int) then ((slices_Clone.f ((l0.take ((mx t106 bt108.1) : Int).toNat).drop (t106 : Int).toNat)).bind fun t114=>(some (t114,0))) else (none)) else (none)) else (none))) = some (r1,r2) := H
  have A6 := Aside0.mk A60
  clear A60
  replace H := Option.bind_eq_some_iff.mp H
  obtain ⟨⟨t108,t109⟩,A70,H⟩ := H
  replace H : (if 0 ≤ t106 then (if t106 ≤ (mx t106 t108) then (if (mx t106 t108) ≤ (l0.length : Int) then ((slices_Clone.f ((l0.take ((mx t106 t108) : Int).toNat).drop (t106 : Int).toNat)).bind fun t114=>(some (t114,0))) else (none)) else (none)) else (none)) = some (r1,r2) := H
  have A7 := Aside0.mk A70
  clear A70
  obtain ⟨ji8,hji8⟩ : ∃ j_ : Int,(mx t106 t108) = j_ := ⟨_,rfl⟩
  replace H : (if 0 ≤ t106 then (if t106 ≤ (ji8) then (if (ji8) ≤ (l0.length : Int) then ((slices_Clone.f ((l0.take ((ji8) : Int).toNat).drop (t106 : Int).toNat)).bind fun t114=>(some (t114,0))) else (none)) else (none)) else (none)) = some (r1,r2) := by first|(rw [hji8] at H;exact H)|(simp only [hji8] at H ⊢;exact H)
  (try rw [hji8] at A4)
  (try rw [hji8] at A6)
  (try rw [hji8] at A7)
  have hji8_ : (if t106 < t108 then t108 else t106) = ji8 := hji8
  by_cases c9 : 0 ≤ t106
  ·rw [if_pos c9] at H
   have c9b0 := eq_true c9
   have c9b1 : decide (0 ≤ t106) = true := decide_eq_true c9
   clear c9
   by_cases c10 : t106 ≤ (ji8)
   ·rw [if_pos c10] at H
    have c10b0 := eq_true c10
    have c10b1 : decide (t106 ≤ (ji8)) = true := decide_eq_true c10
    clear c10
    by_cases c11 : (ji8) ≤ (l0.length : Int)
    ·rw [if_pos c11] at H
     have c11b0 := eq_true c11
     have c11b1 : decide ((ji8) ≤ (l0.length : Int)) = true := decide_eq_true c11
     clear c11
     obtain ⟨y110,hy110⟩ : ∃ y_ : List (S40),y_ = ((l0.take ((ji8) : Int).toNat).drop (t106 : Int).toNat) := ⟨_,rfl⟩
     replace H : ((slices_Clone.f y110).bind fun t114=>(some (t114,0))) = some (r1,r2) := by first|(rw [hy110];with_reducible exact H)|(have H2_ := (Option.bind_some _ _).symm.trans H;rw [hy110];with_reducible exact H2_)|(have H2_ := (Option.bind_some _ _).symm.trans H;with_reducible exact H2_)|with_reducible exact H|(rw [hy110];exact H)|exact H
     have Ny110 := Aside0.mk hy110
     clear hy110
     replace H := Option.bind_eq_some_iff.mp H
     obtain ⟨t114,A120,H⟩ := H
     replace H : (some (t114,0)) = some (r1,r2) := H
     have A12 := Aside0.mk A120
     clear A120
     simp only [Option.some.injEq,Prod.mk.injEq] at H
     obtain ⟨rfl,rfl⟩ := H
     go_enter Tryd.func6,Tryd.ntmps6
     go_wp2_with (first|((with_reducible refine gate_callee (f := 16) rfl ?_);refine goesL_ (some 13) rfl rfl Tryd.func16 q38_ rfl #[.slice A0 l0.length c0] rfl q2_ ?_;(with_reducible refine (series_May.calls k _ _ l0 true _ ?side1 ?side2 A4.out).mono ?_);(case side1=>repeat (first|exact HR0.out|(with_reducible refine Kd.C_alloc ?_ _)|(with_reducible refine Kd.C_drewN ?_ _)|(with_reducible refine Kd.C_drew ?_)));(case side2=>exact HC0.out);rintro e w13 ⟨rfl,hb⟩;refine ⟨_,rfl,?_⟩;have n0_ := Aside0.mk (below_step (bl_) hb);clear HB;have HB := n0_;clear n0_;(try clear hb);(try clear hb2);(try clear hk);(try clear hi))|((with_reducible refine gate_callee (f := 22) rfl ?_);refine goesL_ (some 18) rfl rfl Tryd.func22 q38_ rfl #[.slice A0 l0.length c0,.int .i64 a1] rfl q2_ ?_;(with_reducible refine (series_place.calls _ _ l0 a1 t106 t107 _ ?side1 ?side2 A6.out).mono ?_);(case side1=>repeat (first|exact (Kd.C_below HR0.out HB.out)|(with_reducible refine Kd.C_alloc ?_ _)|(with_reducible refine Kd.C_drewN ?_ _)|(with_reducible refine Kd.C_drew ?_)));(case side2=>exact HC0.out);rintro e w14 ⟨rfl,hb⟩;refine ⟨_,rfl,?_⟩;have n0_ := Aside0.mk (below_step (bl_) hb);clear HB;have HB := n0_;clear n0_;(try clear hb);(try clear hb2);(try clear hk);(try clear hi))|((with_reducible refine gate_callee (f := 22) rfl ?_);refine goesL_ (some 24) rfl rfl Tryd.func22 q38_ rfl #[.slice A0 l0.length c0,.int .i64 a2] rfl q2_ ?_;(with_reducible refine (series_place.calls _ _ l0 a2 t108 t109 _ ?side1 ?side2 A7.out).mono ?_);(case side1=>repeat (first|exact (Kd.C_below HR0.out HB.out)|(with_reducible refine Kd.C_alloc ?_ _)|(with_reducible refine Kd.C_drewN ?_ _)|(with_reducible refine Kd.C_drew ?_)));(case side2=>exact HC0.out);rintro e w15 ⟨rfl,hb⟩;refine ⟨_,rfl,?_⟩;have n0_ := Aside0.mk (below_step (bl_) hb);clear HB;have HB := n0_;clear n0_;(try clear hb);(try clear hb2);(try clear hk);(try clear hi);have q16 : ((ji8) : Int) ≤ ((l0.length : Int) : Int) := of_decide_eq_true q19_;obtain ⟨i016,hi016,_,hsz16,_⟩ := info_parts info40;have hroom16 : l0.length ≤ c0 := HC0.out;have hC16 : Kd.C k40 _ A0 l0.length l0 := HR0.out;have ql16 : (t106 : Int) ≤ ((ji8) : Int) := of_decide_eq_true q19_;have q016 : (0 : Int) ≤ (t106 : Int) := of_decide_eq_true q19_;have hcut16 := cut_mid (P := Tryd.prog) 22 40 .i64 .i64 Tryd.underlying22 hi016 2 hsz16 A0 l0.length c0 t106 (ji8) q016 ql16 q16 hroom16;have hr16 := Kd.C_mid (lo := (t106 : Int).toNat) (hi := ((ji8) : Int).toNat) (c := c0) hC16 q72_ q72_ hroom16;obtain ⟨A16,hA16⟩ : ∃ A1,A1 = (if c0 = (t106 : Int).toNat then A0 else (A0 : Option Addr).map (·.add ((t106 : Int).toNat * 2))) := ⟨_,rfl⟩;obtain ⟨c16,hc16⟩ : ∃ c1,c1 = c0 - (t106 : Int).toNat := ⟨_,rfl⟩;have hy16 : y110.length = ((ji8) : Int).toNat - (t106 : Int).toNat := (by rw [Ny110.out,List.length_drop,List.length_take] <;> omega);rw [show ((l0).take ((ji8) : Int).toNat).drop (t106 : Int).toNat = y110 from Ny110.out.symm] at hr16;replace hr16 : Kd.C k40 _ A16 y110.length y110 := (by rw [hA16];exact hr16);rw [← hy16,← hA16,← hc16] at hcut16;have HR113 := Aside0.mk hr16;have HC113 := Aside0.mk (show y110.length ≤ c16 from by rw [hy16,hc16];exact Nat.sub_le_sub_right (Nat.le_trans q72_ hroom16) _);clear hr16 hC16 hroom16 hi016 hsz16 hc16;have KY16 := Aside0.mk hy16;have KA16 := Aside0.mk hA16;clear hy16 hA16;replace q16 := eq_true q16)|((with_reducible refine gate_callee (f := 23) rfl ?_);refine goesL_ (some 33) rfl rfl Tryd.func23 q38_ rfl #[.slice A16 y110.length c16] rfl q2_ ?_;(with_reducible refine (slices_Clone.calls _ _ y110 t114 _ ?side1 ?side2 A12.out).mono ?_);(case side1=>repeat (first|exact (Kd.C_below HR113.out HB.out)|(with_reducible refine Kd.C_alloc ?_ _)|(with_reducible refine Kd.C_drewN ?_ _)|(with_reducible refine Kd.C_drew ?_)));(case side2=>exact HC113.out);rintro e w17 ⟨v115,rfl,ho0,hb⟩;refine ⟨_,rfl,?_⟩;have n0_ := Aside0.mk (Kd.R_lower ho0 (below_size (bl_)));have n1_ := Aside0.mk (below_step (bl_) hb);clear HB;have HO116 := n0_;have HB := n1_;clear n0_ n1_;(try clear hb);(try clear hb2);(try clear hk);(try clear hi);(try clear ho0)))
     go_ret2
     exact ⟨_,q83_,by (with_reducible repeat (first|apply Kd.R_alloc|apply Kd.R_drewN|apply Kd.R_drew));exact HO116.out,bl_⟩
    ·rw [if_neg c11] at H
     exact absurd H (by simp)
   ·rw [if_neg c10] at H
    exact absurd H (by simp)
  ·rw [if_neg c9] at H
   exact absurd H (by simp)
 ·replace c5 := Bool.eq_false_iff.mpr c5
  subst c5
  have H1 : (some (([] : List (S40)),4)) = some (r1,r2) := by rw [if_neg (show ¬ (false = true) by decide)] at H;exact H
  clear H
  have H := H1
  clear H1
  simp only [Option.some.injEq,Prod.mk.injEq] at H
  obtain ⟨rfl,rfl⟩ := H
  go_enter Tryd.func6,Tryd.ntmps6
  go_wp2_with (first|((with_reducible refine gate_callee (f := 16) rfl ?_);refine goesL_ (some 13) rfl rfl Tryd.func16 q38_ rfl #[.slice A0 l0.length c0] rfl q2_ ?_;(with_reducible refine (series_May.calls k _ _ l0 false _ ?side1 ?side2 A4.out).mono ?_);(case side1=>repeat (first|exact HR0.out|(with_reducible refine Kd.C_alloc ?_ _)|(with_reducible refine Kd.C_drewN ?_ _)|(with_reducible refine Kd.C_drew ?_)));(case side2=>exact HC0.out);rintro e w18 ⟨rfl,hb⟩;refine ⟨_,rfl,?_⟩;have n0_ := Aside0.mk (below_step (bl_) hb);clear HB;have HB := n0_;clear n0_;(try clear hb);(try clear hb2);(try clear hk);(try clear hi)))
  go_ret2
  exact ⟨_,q27_,q56_,bl_⟩

/-! ### batonref22_Same: function 10 -/
def batonref22_Same.l0 : Nat → List (S40) → List (S40) → Int → Option (Bool)
 | 0,_,_,_=>none
 | k + 1,x0,x1,x5=>if x5 < (x0.length : Int) then (if 0 ≤ x5 then (if x5 < (x1.length : Int) then (if (!(((rd_T40 x0 x5).f0) == ((rd_T40 x1 x5).f0)) || (!(((rd_T40 x0 x5).f1) == ((rd_T40 x1 x5).f1)))) = true then (some false) else (batonref22_Same.l0 k x0 x1 (wrap64 (x5 + 1)))) else (none)) else (none)) else (some true)
def batonref22_Same.f (k : Nat) (l0 : List (S40)) (l1 : List (S40)) : Option (Bool) := if (l0.length : Int) = (l1.length : Int) then (batonref22_Same.l0 k l0 l1 0) else (some false)
theorem batonref22_Same.mono_l : ∀ k, (∀ y0 y1 y2, LeO (batonref22_Same.l0 k y0 y1 y2) (batonref22_Same.l0 (k + 1) y0 y1 y2))
 | 0=>fun _ _ _ r h=>by simp [batonref22_Same.l0] at h
 | k + 1=>by
  have ih0 := batonref22_Same.mono_l k
  ·intro y0 y1 y2
   unfold batonref22_Same.l0
   repeat' first
   | (with_reducible exact ih0 _ _ _)
   | (with_reducible exact LeO.refl _)
   | (with_reducible exact LeO.none _)
   | (with_reducible refine LeO.ite ?_ ?_)
   | (with_reducible refine LeO.bind ?_ (fun _=>?_))
   | exact ih0 _ _ _
   | exact LeO.none _
   | refine LeO.ite ?_ ?_
   | refine LeO.bind ?_ (fun _=>?_)
theorem batonref22_Same.mono : ∀ a0 a1 k, LeO (batonref22_Same.f k a0 a1) (batonref22_Same.f (k + 1) a0 a1) := by
 intro a0 a1 k
 have ih0 := batonref22_Same.mono_l k
 unfold batonref22_Same.f
 repeat' first
   | (with_reducible exact ih0 _ _ _)
   | (with_reducible exact LeO.refl _)
   | (with_reducible exact LeO.none _)
   | (with_reducible refine LeO.ite ?_ ?_)
   | (with_reducible refine LeO.bind ?_ (fun _=>?_))
   | exact ih0 _ _ _
   | exact LeO.none _
   | refine LeO.ite ?_ ?_
   | refine LeO.bind ?_ (fun _=>?_)
set_option maxHeartbeats 8000000 in
set_option maxRecDepth 100000 in
theorem batonref22_Same.calls (k : Nat) (A0 : Option Addr) (c0 : Nat) (l0 : List (S40)) (A1 : Option Addr) (c1 : Nat) (l1 : List (S40)) (r : Bool) (w : World) (hr0 : Kd.C k40 w A0 l0.length l0) (hc0 : l0.length ≤ c0) (hr1 : Kd.C k40 w A1 l1.length l1) (hc1 : l1.length ≤ c1) (h : batonref22_Same.f k l0 l1 = some r) :
  Calls Tryd.prog 10 #[.slice A0 l0.length c0,.slice A1 l1.length c1] w fun e w'=>e = .returned (.bool r) ∧ Drawn0 w w' := by
 have hu40 := Tryd.underlying40
 have HR0 := Aside0.mk hr0
 have HC0 := Aside0.mk hc0
 clear hr0 hc0
 have HR1 := Aside0.mk hr1
 have HC1 := Aside0.mk hc1
 clear hr1 hc1
 have H : (if (l0.length : Int) = (l1.length : Int) then (batonref22_Same.l0 k l0 l1 0) else (some false)) = some r := h
 clear h
 by_cases c3 : (l0.length : Int) = (l1.length : Int)
 ·rw [if_pos c3] at H
  have c3b0 : ((l0.length : Int) == (l1.length : Int)) = true := beq_iff_eq.mpr c3
  have c3b1 : ((l0.length : Int) != (l1.length : Int)) = false := bne_eq_false_iff_eq.mpr c3
  have c3b2 : (l0.length == l1.length) = true := by first|simpa using c3|(simp at c3 ⊢;omega)
  clear c3
  have H' := Aside0.mk H
  clear H
  go_enter Tryd.func10,Tryd.ntmps10
  go_wp2
  repeat (go_quiet (fail);try go_wp2)
  go_loopg [5] k (fun kq v5 w'=>∃ (x5_1 : Int),v5 = .int .i64 x5_1 ∧ Aside0 (batonref22_Same.l0 kq l0 l1 x5_1 = some r) ∧ Aside0 (kq ≤ k) ∧ Drawn0 w w')
  case atStart=>exact ⟨(0),q34_,H',⟨Nat.le_refl _⟩,q37_⟩
  case round =>
   clear H'
   try clear c1
   try clear p2
   try clear c3
   try clear c3b0
   try clear c3b1
   try clear c3b2
   obtain ⟨x5_1,rfl,HA,HK1,⟨m1,rfl⟩⟩ := hrel
   cases gk with
   | zero=>exact absurd HA.out (by simp [batonref22_Same.l0])
   | succ k1 =>
    have H := HA.out
    clear HA
    simp only [batonref22_Same.l0] at H
    by_cases c4 : x5_1 < (l0.length : Int)
    ·rw [if_pos c4] at H
     have c4b0 : decide (x5_1 < (l0.length : Int)) = true := decide_eq_true c4
     clear c4
     by_cases c5 : 0 ≤ x5_1
     ·rw [if_pos c5] at H
      have c5b0 : decide (0 ≤ x5_1) = true := decide_eq_true c5
      clear c5
      by_cases c6 : x5_1 < (l1.length : Int)
      ·rw [if_pos c6] at H
       have c6b0 : decide (x5_1 < (l1.length : Int)) = true := decide_eq_true c6
       clear c6
       by_cases c7 : (!(((rd_T40 l0 x5_1).f0) == ((rd_T40 l1 x5_1).f0)) || (!(((rd_T40 l0 x5_1).f1) == ((rd_T40 l1 x5_1).f1)))) = true
       ·rw [if_pos c7] at H
        have c7b0 : (!(((rd_T40 l0 x5_1).f0) == ((rd_T40 l1 x5_1).f0)) || (!(((rd_T40 l0 x5_1).f1) == ((rd_T40 l1 x5_1).f1)))) = true := c7
        clear c7
        obtain rfl := Option.some.inj H
        have p117 : 0 ≤ (x5_1 : Int) := of_decide_eq_true q19_
        have q117 : x5_1 < (l0.length : Int) := of_decide_eq_true q19_
        obtain ⟨ad117,e117,hx117_0,hx117_1⟩ := at_T40 HR0.out x5_1 p117 q117
        cases e117
        replace p117 := eq_true p117
        replace q117 := eq_true q117
        have p118 : 0 ≤ (x5_1 : Int) := of_decide_eq_true q19_
        have q118 : x5_1 < (l1.length : Int) := of_decide_eq_true q19_
        obtain ⟨ad118,e118,hx118_0,hx118_1⟩ := at_T40 HR1.out x5_1 p118 q118
        cases e118
        replace p118 := eq_true p118
        replace q118 := eq_true q118
        go_wp2
        repeat (go_quiet (fail);try go_wp2)
        go_ret
        exact ⟨q34_,q37_⟩
       ·rw [if_neg c7] at H
        have c7b0 : (!(((rd_T40 l0 x5_1).f0) == ((rd_T40 l1 x5_1).f0)) || (!(((rd_T40 l0 x5_1).f1) == ((rd_T40 l1 x5_1).f1)))) = false := by simpa using c7
        clear c7
        have H' := Aside0.mk H
        clear H
        have p117 : 0 ≤ (x5_1 : Int) := of_decide_eq_true q19_
        have q117 : x5_1 < (l0.length : Int) := of_decide_eq_true q19_
        obtain ⟨ad117,e117,hx117_0,hx117_1⟩ := at_T40 HR0.out x5_1 p117 q117
        cases e117
        replace p117 := eq_true p117
        replace q117 := eq_true q117
        have p118 : 0 ≤ (x5_1 : Int) := of_decide_eq_true q19_
        have q118 : x5_1 < (l1.length : Int) := of_decide_eq_true q19_
        obtain ⟨ad118,e118,hx118_0,hx118_1⟩ := at_T40 HR1.out x5_1 p118 q118
        cases e118
        replace p118 := eq_true p118
        replace q118 := eq_true q118
        go_wp2
        repeat (go_quiet (fail);try go_wp2)
        go_roundg k1
        case measure=>have := HK1.out;omega
        case rel=>exact ⟨(wrap64 (x5_1 + 1)),q34_,H',⟨q84_⟩,q37_⟩
      ·rw [if_neg c6] at H
       exact absurd H (by simp)
     ·rw [if_neg c5] at H
      exact absurd H (by simp)
    ·rw [if_neg c4] at H
     have c4b0 : decide (x5_1 < (l0.length : Int)) = false := decide_eq_false c4
     clear c4
     obtain rfl := Option.some.inj H
     go_wp2
     repeat (go_quiet (fail);try go_wp2)
     go_ret
     exact ⟨q34_,q37_⟩
 ·rw [if_neg c3] at H
  have c3b0 : ((l0.length : Int) == (l1.length : Int)) = false := beq_eq_false_iff_ne.mpr c3
  have c3b1 : ((l0.length : Int) != (l1.length : Int)) = true := bne_iff_ne.mpr c3
  have c3b2 : (l0.length == l1.length) = false := by first|simpa using c3|(simp at c3 ⊢;omega)
  obtain rfl := Option.some.inj H
  go_enter Tryd.func10,Tryd.ntmps10
  go_wp2
  repeat (go_quiet (fail);try go_wp2)
  go_ret
  exact ⟨q34_,q37_⟩

end Go.Proofs.YtbedpnklnamnhaaDoor.PG

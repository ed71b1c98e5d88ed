/- The machine side of these statements: what each Go function computes as a plain function, and that its call computes just that. Written by a program of mine (wip/drive.py). No conditions. -/
import Derived.Test.YthcjcmgdblhhfaaPVx0
import Derived.Test.YthcjcmgdblhhfaaPVx30
namespace Go.Proofs.Ythcjcmgdblhhfaa.PV
open Go.RowKit Go.Proofs.YthcjcmgdblhhfaaW.PrintWords Go.Proofs.YthcjcmgdblhhfaaW.PrintLast Go.Proofs.YthcjcmgdblhhfaaW.PrintMore
attribute [local go_sem] max2_int min2_int max_two min_two max_three min_three max_four min_four   -- for this text's walks alone
set_option linter.unusedVariables false
set_option linter.unusedSimpArgs false

/-! ### batonref03_Pack: function 25 -/
def batonref03_Pack.l0 : Nat → ByteArray → List (S72) → Int → Int → Option ((List (S72)) × Int)
 | 0,_,_,_,_=>none
 | k + 1,x0,x4,x5,x6=>if x6 < (x0.size : Int) then ((batonref03_Match.f k x0 x6).bind fun bt404=>(if bt404.2 < 4 then (batonref03_Pack.l0 k x0 x4 x5 (wrap64 (x6 + 1))) else (if x6 > x5 then (if 0 ≤ x5 then (if x5 ≤ x6 then (if x6 ≤ (x0.size : Int) then (if x4.length < 3518437208883 then ((some (x4 ++ [(⟨false,x0.extract (x5 : Int).toNat (x6 : Int).toNat,0,0⟩ : S72)] : List (S72))).bind fun y406=>(if y406.length < 3518437208883 then (batonref03_Pack.l0 k x0 (y406 ++ [(⟨true,(⟨#[]⟩ : ByteArray),bt404.1,bt404.2⟩ : S72)]) (wrap64 (x6 + bt404.2)) (wrap64 (x6 + bt404.2))) else (none))) else (none)) else (none)) else (none)) else (none)) else (if x4.length < 3518437208883 then (batonref03_Pack.l0 k x0 (x4 ++ [(⟨true,(⟨#[]⟩ : ByteArray),bt404.1,bt404.2⟩ : S72)]) (wrap64 (x6 + bt404.2)) (wrap64 (x6 + bt404.2))) else (none))))) else (if x6 > x5 then (if 0 ≤ x5 then (if x5 ≤ (x0.size : Int) then (if x4.length < 3518437208883 then (some ((x4 ++ [(⟨false,x0.extract (x5 : Int).toNat x0.size,0,0⟩ : S72)]),0)) else (none)) else (none)) else (none)) else (some (x4,0)))
def batonref03_Pack.f (k : Nat) (a0 : ByteArray) : Option ((List (S72)) × Int) := if (a0.size : Int) > 65536 then (some (([] : List (S72)), 40)) else (batonref03_Pack.l0 k a0 ([] : List (S72)) 0 0)
theorem batonref03_Pack.mono_l : ∀ k, (∀ y0 y1 y2 y3, LeO (batonref03_Pack.l0 k y0 y1 y2 y3) (batonref03_Pack.l0 (k + 1) y0 y1 y2 y3))
 | 0=>fun _ _ _ _ r h=>by simp [batonref03_Pack.l0] at h
 | k + 1=>by
  have ih0 := batonref03_Pack.mono_l k
  ·intro y0 y1 y2 y3
   unfold batonref03_Pack.l0
   repeat' first
   | (with_reducible exact ih0 _ _ _ _)
   | (with_reducible exact batonref03_Match.mono _ _ _)
   | (with_reducible exact LeO.refl _)
   | (with_reducible exact LeO.none _)
   | (with_reducible refine LeO.ite ?_ ?_)
   | (with_reducible refine LeO.bind ?_ (fun _=>?_))
   | exact ih0 _ _ _ _
   | exact batonref03_Match.mono _ _ _
   | exact LeO.none _
   | refine LeO.ite ?_ ?_
   | refine LeO.bind ?_ (fun _=>?_)
theorem batonref03_Pack.mono : ∀ a0 k, LeO (batonref03_Pack.f k a0) (batonref03_Pack.f (k + 1) a0) := by
 intro a0 k
 have ih0 := batonref03_Pack.mono_l k
 unfold batonref03_Pack.f
 repeat' first
   | (with_reducible exact ih0 _ _ _ _)
   | (with_reducible exact batonref03_Match.mono _ _ _)
   | (with_reducible exact LeO.refl _)
   | (with_reducible exact LeO.none _)
   | (with_reducible refine LeO.ite ?_ ?_)
   | (with_reducible refine LeO.bind ?_ (fun _=>?_))
   | exact ih0 _ _ _ _
   | exact batonref03_Match.mono _ _ _
   | exact LeO.none _
   | refine LeO.ite ?_ ?_
   | refine LeO.bind ?_ (fun _=>?_)
set_option maxHeartbeats 8000000 in
set_option maxRecDepth 100000 in
theorem batonref03_Pack.calls (k : Nat) (a0 : ByteArray) (r1 : List (S72)) (r2 : Int) (w : World) (h : batonref03_Pack.f k a0 = some (r1, r2)) :
  Calls Try.prog 25 #[.string a0] w fun e w'=>∃ v0_ : Value,e = .returned (.tuple #[v0_,.int .i64 r2]) ∧ Kd.R k72 72 w' w.heap.size (fun _=>True) v0_ r1 ∧ Below w.heap.size w w' := by
 have hu72 := Try.underlying72
 have HB := Aside0.mk (Below.refl w.heap.size w)
 have H : (if (a0.size : Int) > 65536 then (some (([] : List (S72)),40)) else (batonref03_Pack.l0 k a0 ([] : List (S72)) 0 0)) = some (r1,r2) := h
 clear h
 by_cases c2 : (a0.size : Int) > 65536
 ·rw [if_pos c2] at H
  have c2b0 : decide (65536 < (a0.size : Int)) = true := decide_eq_true c2
  have c2b1 : decide (65536 < a0.size) = true := decide_eq_true q75_
  clear c2
  simp only [Option.some.injEq,Prod.mk.injEq] at H
  obtain ⟨rfl,rfl⟩ := H
  go_enter Try.func25,Try.ntmps25
  go_wp2
  go_ret2
  exact ⟨_,q1_,q39_,bl_⟩
 ·rw [if_neg c2] at H
  have c2b0 : decide (65536 < (a0.size : Int)) = false := decide_eq_false c2
  have c2b1 : decide (65536 < a0.size) = false := decide_eq_false q75_
  clear c2
  have H' := Aside0.mk H
  clear H
  go_enter Try.func25,Try.ntmps25
  go_wp2
  go_loopg [4,5,6] k (fun kq v4 v5 v6 w'=>∃ (x4_1 : List (S72)) (x5_1 : Int) (x6_1 : Int),v5 = .int .i64 x5_1 ∧ v6 = .int .i64 x6_1 ∧ Aside0 (batonref03_Pack.l0 kq a0 x4_1 x5_1 x6_1 = some (r1,r2)) ∧ Aside0 (kq ≤ k) ∧ Aside0 (Kd.R k72 72 w' w.heap.size (fun _=>True) v4 x4_1) ∧ Aside0 (Below w.heap.size w w'))
  case atStart=>exact ⟨(([] : List (S72))),(0),(0),q4_,q4_,H',⟨Nat.le_refl _⟩,⟨q39_⟩,⟨bl_⟩⟩
  case round =>
   clear H'
   try clear c2
   try clear c2b0
   try clear c2b1
   try clear p2
   obtain ⟨x4_1,x5_1,x6_1,rfl,rfl,HA,HK1,HO_4,HB⟩ := hrel
   cases gk with
   | zero=>exact absurd HA.out (by simp [batonref03_Pack.l0])
   | succ k1 =>
    have H := HA.out
    clear HA
    simp only [batonref03_Pack.l0] at H
    by_cases c3 : x6_1 < (a0.size : Int)
    ·rw [if_pos c3] at H
     have c3b0 : decide (x6_1 < (a0.size : Int)) = true := decide_eq_true c3
     clear c3
     replace H := Option.bind_eq_some_iff.mp H
     obtain ⟨⟨t404,t405⟩,A40,H⟩ := H
     replace H : (if t405 < 4 then (batonref03_Pack.l0 k1 a0 x4_1 x5_1 (wrap64 (x6_1 + 1))) else (if x6_1 > x5_1 then (if 0 ≤ x5_1 then (if x5_1 ≤ x6_1 then (if x6_1 ≤ (a0.size : Int) then (if x4_1.length < 3518437208883 then ((some (x4_1 ++ [(⟨false,a0.extract (x5_1 : Int).toNat (x6_1 : Int).toNat,0,0⟩ : S72)] : List (S72))).bind fun y406=>(if y406.length < 3518437208883 then (batonref03_Pack.l0 k1 a0 (y406 ++ [(⟨true,(⟨#[]⟩ : ByteArray),t404,t405⟩ : S72)]) (wrap64 (x6_1 + t405)) (wrap64 (x6_1 + t405))) else (none))) else (none)) else (none)) else (none)) else (none)) else (if x4_1.length < 3518437208883 then (batonref03_Pack.l0 k1 a0 (x4_1 ++ [(⟨true,(⟨#[]⟩ : ByteArray),t404,t405⟩ : S72)]) (wrap64 (x6_1 + t405)) (wrap64 (x6_1 + t405))) else (none)))) = some (r1,r2) := H
     have A4 := Aside0.mk A40
     clear A40
     by_cases c5 : t405 < 4
     ·rw [if_pos c5] at H
      have c5b0 : decide (t405 < 4) = true := decide_eq_true c5
      clear c5
      have H' := Aside0.mk H
      clear H
      go_wp2_with (first|((with_reducible refine gate_callee (f := 24) rfl ?_);refine goesL_ (some 19) rfl rfl Try.func24 q9_ rfl #[.string a0,.int .i64 x6_1] rfl q0_ ?_;(with_reducible refine (batonref03_Match.calls k1 a0 x6_1 t404 t405 _ A4.out).mono ?_);rintro e w' ⟨rfl,⟨nd,rfl⟩⟩;refine ⟨_,rfl,?_⟩))
      go_roundg k1
      case measure=>have := HK1.out;omega
      case rel=>exact ⟨(x4_1),(x5_1),(wrap64 (x6_1 + 1)),q4_,q4_,H',⟨q85_⟩,⟨q89_⟩,⟨bl_⟩⟩
     ·rw [if_neg c5] at H
      have c5b0 : decide (t405 < 4) = false := decide_eq_false c5
      clear c5
      by_cases c6 : x6_1 > x5_1
      ·rw [if_pos c6] at H
       have c6b0 : decide (x5_1 < x6_1) = true := decide_eq_true c6
       clear c6
       by_cases c7 : 0 ≤ x5_1
       ·rw [if_pos c7] at H
        have c7b0 := eq_true c7
        have c7b1 : decide (0 ≤ x5_1) = true := decide_eq_true c7
        clear c7
        by_cases c8 : x5_1 ≤ x6_1
        ·rw [if_pos c8] at H
         have c8b0 := eq_true c8
         have c8b1 : decide (x5_1 ≤ x6_1) = true := decide_eq_true c8
         clear c8
         by_cases c9 : x6_1 ≤ (a0.size : Int)
         ·rw [if_pos c9] at H
          have c9b0 := eq_true c9
          have c9b1 : decide (x6_1 ≤ (a0.size : Int)) = true := decide_eq_true c9
          clear c9
          by_cases c10 : x4_1.length < 3518437208883
          ·rw [if_pos c10] at H
           have LMc10 := Aside0.mk c10
           clear c10
           obtain ⟨y406,hy406⟩ : ∃ y_ : List (S72),y_ = (x4_1 ++ [(⟨false,a0.extract (x5_1 : Int).toNat (x6_1 : Int).toNat,0,0⟩ : S72)]) := ⟨_,rfl⟩
           replace H : (if y406.length < 3518437208883 then (batonref03_Pack.l0 k1 a0 (y406 ++ [(⟨true,(⟨#[]⟩ : ByteArray),t404,t405⟩ : S72)]) (wrap64 (x6_1 + t405)) (wrap64 (x6_1 + t405))) else (none)) = some (r1,r2) := by first|(rw [hy406];with_reducible exact H)|(have H2_ := (Option.bind_some _ _).symm.trans H;rw [hy406];with_reducible exact H2_)|(have H2_ := (Option.bind_some _ _).symm.trans H;with_reducible exact H2_)|with_reducible exact H|(rw [hy406];exact H)|exact H
           have Ny406 := Aside0.mk hy406
           clear hy406
           by_cases c11 : y406.length < 3518437208883
           ·rw [if_pos c11] at H
            have LMc11 := Aside0.mk c11
            clear c11
            obtain ⟨y409,hy409⟩ : ∃ y_ : List (S72),y_ = (y406 ++ [(⟨true,(⟨#[]⟩ : ByteArray),t404,t405⟩ : S72)]) := ⟨_,rfl⟩
            replace H : (batonref03_Pack.l0 k1 a0 y409 (wrap64 (x6_1 + t405)) (wrap64 (x6_1 + t405))) = some (r1,r2) := by first|(rw [hy409];with_reducible exact H)|(have H2_ := (Option.bind_some _ _).symm.trans H;rw [hy409];with_reducible exact H2_)|(have H2_ := (Option.bind_some _ _).symm.trans H;with_reducible exact H2_)|with_reducible exact H|(rw [hy409];exact H)|exact H
            have Ny409 := Aside0.mk hy409
            clear hy409
            have H' := Aside0.mk H
            clear H
            go_wp2_with (first|((with_reducible refine gate_callee (f := 24) rfl ?_);refine goesL_ (some 19) rfl rfl Try.func24 q9_ rfl #[.string a0,.int .i64 x6_1] rfl q0_ ?_;(with_reducible refine (batonref03_Match.calls k1 a0 x6_1 t404 t405 _ A4.out).mono ?_);rintro e w' ⟨rfl,⟨nd,rfl⟩⟩;refine ⟨_,rfl,?_⟩)|((with_reducible refine gate_builtin (b := .append) (xs := #[.tmp 29,.tmp 35]) rfl ?_);at_builtin;refine Kd.R_append k72 (w0 := w) w.heap.size rfl (.tmp 29) (.tmp 35) 39 72 (.agg #[(.bool false),(.string ⟨#[]⟩),(.int .i64 0),(.int .i64 0)]) 40 rfl Try.underlying39 info72 rfl (by decide) q75_ u4 x4_1 (⟨false,a0.extract (x5_1 : Int).toNat (x6_1 : Int).toNat,0,0⟩ : S72) [.bool false,.string (a0.extract (x5_1 : Int).toNat (x6_1 : Int).toNat),.int .i64 0,.int .i64 0] (fun _=>True) (fun _=>False) rfl rfl ?aP (fun _ hk=>hk.elim) ?aF ?aO ?aB ?aS ?aL ?_;(case aP=>exact k72_mkM _ _ _ (⟨false,a0.extract (x5_1 : Int).toNat (x6_1 : Int).toNat,0,0⟩ : S72));(case aB=>exact (bl_));(case aF=>exact (fun _ _=>trivial));(case aO=>exact q89_);(case aS=>exact (below_size (bl_)));(case aL=>have := LMc10.out;omega);intro v407 w12 ho hb hg hat;rw [← Ny406.out] at ho;have n0_ := Aside0.mk (hb);have n1_ := Aside0.mk (ho);clear HB;clear HO_4;have HB := n0_;have HO408 := n1_;clear n0_ n1_;clear ho hb hg hat)|((with_reducible refine gate_builtin (b := .append) (xs := #[.tmp 37,.tmp 41]) rfl ?_);at_builtin;refine Kd.R_append k72 (w0 := w) w.heap.size rfl (.tmp 37) (.tmp 41) 39 72 (.agg #[(.bool false),(.string ⟨#[]⟩),(.int .i64 0),(.int .i64 0)]) 40 rfl Try.underlying39 info72 rfl (by decide) q75_ v407 y406 (⟨true,(⟨#[]⟩ : ByteArray),t404,t405⟩ : S72) [.bool true,.string (⟨#[]⟩ : ByteArray),.int .i64 t404,.int .i64 t405] (fun _=>True) (fun _=>False) rfl rfl ?aP (fun _ hk=>hk.elim) ?aF ?aO ?aB ?aS ?aL ?_;(case aP=>exact k72_mkM _ _ _ (⟨true,(⟨#[]⟩ : ByteArray),t404,t405⟩ : S72));(case aB=>exact (bl_));(case aF=>exact (fun _ _=>trivial));(case aO=>exact (by (with_reducible repeat (first|apply Kd.R_alloc|apply Kd.R_drewN|apply Kd.R_drew));exact HO408.out));(case aS=>exact (below_size (bl_)));(case aL=>have := LMc11.out;omega);intro v410 w13 ho hb hg hat;rw [← Ny409.out] at ho;have n0_ := Aside0.mk (hb);have n1_ := Aside0.mk (ho);clear HB;clear HO408;have HB := n0_;have HO411 := n1_;clear n0_ n1_;clear ho hb hg hat))
            go_roundg k1
            case measure=>have := HK1.out;omega
            case rel=>exact ⟨(y409),(wrap64 (x6_1 + t405)),(wrap64 (x6_1 + t405)),q4_,q4_,H',⟨q85_⟩,⟨by (with_reducible repeat (first|apply Kd.R_alloc|apply Kd.R_drewN|apply Kd.R_drew));exact HO411.out⟩,⟨bl_⟩⟩
           ·rw [if_neg c11] at H
            exact absurd H (by simp)
          ·rw [if_neg c10] at H
           exact absurd H (by simp)
         ·rw [if_neg c9] at H
          exact absurd H (by simp)
        ·rw [if_neg c8] at H
         exact absurd H (by simp)
       ·rw [if_neg c7] at H
        exact absurd H (by simp)
      ·rw [if_neg c6] at H
       have c6b0 : decide (x5_1 < x6_1) = false := decide_eq_false c6
       clear c6
       by_cases c14 : x4_1.length < 3518437208883
       ·rw [if_pos c14] at H
        have LMc14 := Aside0.mk c14
        clear c14
        obtain ⟨y412,hy412⟩ : ∃ y_ : List (S72),y_ = (x4_1 ++ [(⟨true,(⟨#[]⟩ : ByteArray),t404,t405⟩ : S72)]) := ⟨_,rfl⟩
        replace H : (batonref03_Pack.l0 k1 a0 y412 (wrap64 (x6_1 + t405)) (wrap64 (x6_1 + t405))) = some (r1,r2) := by first|(rw [hy412];with_reducible exact H)|(have H2_ := (Option.bind_some _ _).symm.trans H;rw [hy412];with_reducible exact H2_)|(have H2_ := (Option.bind_some _ _).symm.trans H;with_reducible exact H2_)|with_reducible exact H|(rw [hy412];exact H)|exact H
        have Ny412 := Aside0.mk hy412
        clear hy412
        have H' := Aside0.mk H
        clear H
        go_wp2_with (first|((with_reducible refine gate_callee (f := 24) rfl ?_);refine goesL_ (some 19) rfl rfl Try.func24 q9_ rfl #[.string a0,.int .i64 x6_1] rfl q0_ ?_;(with_reducible refine (batonref03_Match.calls k1 a0 x6_1 t404 t405 _ A4.out).mono ?_);rintro e w' ⟨rfl,⟨nd,rfl⟩⟩;refine ⟨_,rfl,?_⟩)|((with_reducible refine gate_builtin (b := .append) (xs := #[.tmp 37,.tmp 41]) rfl ?_);at_builtin;refine Kd.R_append k72 (w0 := w) w.heap.size rfl (.tmp 37) (.tmp 41) 39 72 (.agg #[(.bool false),(.string ⟨#[]⟩),(.int .i64 0),(.int .i64 0)]) 40 rfl Try.underlying39 info72 rfl (by decide) q75_ u4 x4_1 (⟨true,(⟨#[]⟩ : ByteArray),t404,t405⟩ : S72) [.bool true,.string (⟨#[]⟩ : ByteArray),.int .i64 t404,.int .i64 t405] (fun _=>True) (fun _=>False) rfl rfl ?aP (fun _ hk=>hk.elim) ?aF ?aO ?aB ?aS ?aL ?_;(case aP=>exact k72_mkM _ _ _ (⟨true,(⟨#[]⟩ : ByteArray),t404,t405⟩ : S72));(case aB=>exact (bl_));(case aF=>exact (fun _ _=>trivial));(case aO=>exact q89_);(case aS=>exact (below_size (bl_)));(case aL=>have := LMc14.out;omega);intro v413 w15 ho hb hg hat;rw [← Ny412.out] at ho;have n0_ := Aside0.mk (hb);have n1_ := Aside0.mk (ho);clear HB;clear HO_4;have HB := n0_;have HO414 := n1_;clear n0_ n1_;clear ho hb hg hat))
        go_roundg k1
        case measure=>have := HK1.out;omega
        case rel=>exact ⟨(y412),(wrap64 (x6_1 + t405)),(wrap64 (x6_1 + t405)),q4_,q4_,H',⟨q85_⟩,⟨by (with_reducible repeat (first|apply Kd.R_alloc|apply Kd.R_drewN|apply Kd.R_drew));exact HO414.out⟩,⟨bl_⟩⟩
       ·rw [if_neg c14] at H
        exact absurd H (by simp)
    ·rw [if_neg c3] at H
     have c3b0 : decide (x6_1 < (a0.size : Int)) = false := decide_eq_false c3
     clear c3
     by_cases c16 : x6_1 > x5_1
     ·rw [if_pos c16] at H
      have c16b0 : decide (x5_1 < x6_1) = true := decide_eq_true c16
      clear c16
      by_cases c17 : 0 ≤ x5_1
      ·rw [if_pos c17] at H
       have c17b0 := eq_true c17
       have c17b1 : decide (0 ≤ x5_1) = true := decide_eq_true c17
       clear c17
       by_cases c18 : x5_1 ≤ (a0.size : Int)
       ·rw [if_pos c18] at H
        have c18b0 := eq_true c18
        have c18b1 : decide (x5_1 ≤ (a0.size : Int)) = true := decide_eq_true c18
        clear c18
        by_cases c19 : x4_1.length < 3518437208883
        ·rw [if_pos c19] at H
         have LMc19 := Aside0.mk c19
         clear c19
         obtain ⟨y401,hy401⟩ : ∃ y_ : List (S72),y_ = (x4_1 ++ [(⟨false,a0.extract (x5_1 : Int).toNat a0.size,0,0⟩ : S72)]) := ⟨_,rfl⟩
         replace H : (some (y401,0)) = some (r1,r2) := by first|(rw [hy401];with_reducible exact H)|(have H2_ := (Option.bind_some _ _).symm.trans H;rw [hy401];with_reducible exact H2_)|(have H2_ := (Option.bind_some _ _).symm.trans H;with_reducible exact H2_)|with_reducible exact H|(rw [hy401];exact H)|exact H
         have Ny401 := Aside0.mk hy401
         clear hy401
         simp only [Option.some.injEq,Prod.mk.injEq] at H
         obtain ⟨rfl,rfl⟩ := H
         go_wp2_with (first|((with_reducible refine gate_builtin (b := .append) (xs := #[.tmp 50,.tmp 55]) rfl ?_);at_builtin;refine Kd.R_append k72 (w0 := w) w.heap.size rfl (.tmp 50) (.tmp 55) 39 72 (.agg #[(.bool false),(.string ⟨#[]⟩),(.int .i64 0),(.int .i64 0)]) 40 rfl Try.underlying39 info72 rfl (by decide) q75_ u4 x4_1 (⟨false,a0.extract (x5_1 : Int).toNat a0.size,0,0⟩ : S72) [.bool false,.string (a0.extract (x5_1 : Int).toNat a0.size),.int .i64 0,.int .i64 0] (fun _=>True) (fun _=>False) rfl rfl ?aP (fun _ hk=>hk.elim) ?aF ?aO ?aB ?aS ?aL ?_;(case aP=>exact k72_mkM _ _ _ (⟨false,a0.extract (x5_1 : Int).toNat a0.size,0,0⟩ : S72));(case aB=>exact (bl_));(case aF=>exact (fun _ _=>trivial));(case aO=>exact q89_);(case aS=>exact (below_size (bl_)));(case aL=>have := LMc19.out;omega);intro v402 w20 ho hb hg hat;rw [← Ny401.out] at ho;have n0_ := Aside0.mk (hb);have n1_ := Aside0.mk (ho);clear HB;clear HO_4;have HB := n0_;have HO403 := n1_;clear n0_ n1_;clear ho hb hg hat))
         go_ret2
         exact ⟨_,q1_,by (with_reducible repeat (first|apply Kd.R_alloc|apply Kd.R_drewN|apply Kd.R_drew));exact HO403.out,bl_⟩
        ·rw [if_neg c19] at H
         exact absurd H (by simp)
       ·rw [if_neg c18] at H
        exact absurd H (by simp)
      ·rw [if_neg c17] at H
       exact absurd H (by simp)
     ·rw [if_neg c16] at H
      have c16b0 : decide (x5_1 < x6_1) = false := decide_eq_false c16
      clear c16
      simp only [Option.some.injEq,Prod.mk.injEq] at H
      obtain ⟨rfl,rfl⟩ := H
      go_wp2
      go_ret2
      exact ⟨_,q1_,q89_,bl_⟩

end Go.Proofs.Ythcjcmgdblhhfaa.PV

/- The machine side of these statements: what each Go function computes as a plain function, and that its call computes just that. Written by a program of mine (wip/drive.py). No conditions. -/
import Derived.Test.YthcjcmgdblhhfaaPVx0
namespace Go.Proofs.Ythcjcmgdblhhfaa.PV
open Go.RowKit Go.Proofs.YthcjcmgdblhhfaaW.PrintWords Go.Proofs.YthcjcmgdblhhfaaW.PrintLast Go.Proofs.YthcjcmgdblhhfaaW.PrintMore
attribute [local go_sem] max2_int min2_int max_two min_two max_three min_three max_four min_four   -- for this text's walks alone
set_option linter.unusedVariables false
set_option linter.unusedSimpArgs false

/-! ### batonlaw03_given: function 20 -/
def batonlaw03_given.l0 : Nat → List (S72) → List (S35) → Int → Option ((List (S35)))
 | 0,_,_,_=>none
 | k + 1,x0,x3,x4=>if x4 < (x0.length : Int) then (if 0 ≤ x4 then (if x3.length < 3518437208883 then (batonlaw03_given.l0 k x0 (x3 ++ [(⟨(rd_T72 x0 x4).f0,(rd_T72 x0 x4).f1,(rd_T72 x0 x4).f2,(rd_T72 x0 x4).f3⟩ : S35)]) (wrap64 (x4 + 1))) else (none)) else (none)) else (some x3)
def batonlaw03_given.f (k : Nat) (l0 : List (S72)) : Option ((List (S35))) := batonlaw03_given.l0 k l0 ([] : List (S35)) 0
theorem batonlaw03_given.mono_l : ∀ k, (∀ y0 y1 y2, LeO (batonlaw03_given.l0 k y0 y1 y2) (batonlaw03_given.l0 (k + 1) y0 y1 y2))
 | 0=>fun _ _ _ r h=>by simp [batonlaw03_given.l0] at h
 | k + 1=>by
  have ih0 := batonlaw03_given.mono_l k
  ·intro y0 y1 y2
   unfold batonlaw03_given.l0
   repeat' first
   | (with_reducible exact ih0 _ _ _)
   | (with_reducible exact LeO.refl _)
   | (with_reducible exact LeO.none _)
   | (with_reducible refine LeO.ite ?_ ?_)
   | (with_reducible refine LeO.bind ?_ (fun _=>?_))
   | exact ih0 _ _ _
   | exact LeO.none _
   | refine LeO.ite ?_ ?_
   | refine LeO.bind ?_ (fun _=>?_)
theorem batonlaw03_given.mono : ∀ a0 k, LeO (batonlaw03_given.f k a0) (batonlaw03_given.f (k + 1) a0) := by
 intro a0 k
 have ih0 := batonlaw03_given.mono_l k
 unfold batonlaw03_given.f
 repeat' first
   | (with_reducible exact ih0 _ _ _)
   | (with_reducible exact LeO.refl _)
   | (with_reducible exact LeO.none _)
   | (with_reducible refine LeO.ite ?_ ?_)
   | (with_reducible refine LeO.bind ?_ (fun _=>?_))
   | exact ih0 _ _ _
   | exact LeO.none _
   | refine LeO.ite ?_ ?_
   | refine LeO.bind ?_ (fun _=>?_)
def batonlaw03_given.T5 : Bool × List (List Nat × List Nat) := (true, [([], []), ([], []), ([], []), ([1, 2], [1, 2]), ([3], [3]), ([4], [4]), ([], []), ([], []), ([6, 7], [6, 7]), ([8], [8]), ([9], [9]), ([], []), ([], []), ([11, 12], [11, 12]), ([13], [13]), ([14], [14]), ([], []), ([], []), ([16, 17], [16, 17]), ([18], [18]), ([19], [19]), ([5, 10, 15, 20], [5, 10, 15, 20]), ([21], [21]), ([0, 22], [0, 22]), ([23, 23, 0, 1, 2, 3, 4, 5, 6, 7, 8, 9, 10, 11, 12, 13, 14, 15, 16, 17, 18, 19, 20, 21, 22, 23], [0, 23])])
def batonlaw03_given.B5 : List Nat := [0, 0, 0, 6, 14, 30, 0, 0, 192, 448, 960, 0, 0, 6144, 14336, 30720, 0, 0, 196608, 458752, 983040, 2097150, 4194302, 8388607, 16777215]
theorem batonlaw03_given.tab5 : rtab .any (opsOf Try.f20 5) = batonlaw03_given.T5 := by kernel_rfl
theorem batonlaw03_given.bits5 : waitsOk batonlaw03_given.T5.2 batonlaw03_given.B5 = true := by kernel_rfl
set_option maxHeartbeats 8000000 in
set_option maxRecDepth 100000 in
theorem batonlaw03_given.calls (k : Nat) (A0 : Option Addr) (c0 : Nat) (l0 : List (S72)) (r : List (S35)) (w : World) (hr0 : Kd.C k72 w A0 l0.length l0) (hc0 : l0.length ≤ c0) (h : batonlaw03_given.f k l0 = some r) :
  Calls Try.prog 20 #[.slice A0 l0.length c0] w fun e w'=>∃ v0_ : Value,e = .returned (v0_) ∧ Kd.R k35 35 w' w.heap.size (fun _=>True) v0_ r ∧ Below w.heap.size w w' := by
 have hu35 := Try.underlying35
 have HR0 := Aside0.mk hr0
 have HC0 := Aside0.mk hc0
 clear hr0 hc0
 have HB := Aside0.mk (Below.refl w.heap.size w)
 have H : (batonlaw03_given.l0 k l0 ([] : List (S35)) 0) = some r := h
 clear h
 have H' := Aside0.mk H
 clear H
 go_enter Try.func20,Try.ntmps20
 go_wp2
 go_loopg [3,4] k (fun kq v3 v4 w'=>∃ (x3_1 : List (S35)) (x4_1 : Int),v4 = .int .i64 x4_1 ∧ Aside0 (batonlaw03_given.l0 kq l0 x3_1 x4_1 = some r) ∧ Aside0 (kq ≤ k) ∧ Aside0 (Kd.R k35 35 w' w.heap.size (fun _=>True) v3 x3_1) ∧ Aside0 (Below w.heap.size w w'))
 case atStart=>exact ⟨(([] : List (S35))),(0),q4_,H',⟨Nat.le_refl _⟩,⟨q39_⟩,⟨bl_⟩⟩
 case round =>
  clear H'
  obtain ⟨x3_1,x4_1,rfl,HA,HK1,HO_3,HB⟩ := hrel
  cases gk with
  | zero=>exact absurd HA.out (by simp [batonlaw03_given.l0])
  | succ k1 =>
   have H := HA.out
   clear HA
   simp only [batonlaw03_given.l0] at H
   by_cases c2 : x4_1 < (l0.length : Int)
   ·rw [if_pos c2] at H
    have c2b0 : decide (x4_1 < (l0.length : Int)) = true := decide_eq_true c2
    clear c2
    by_cases c3 : 0 ≤ x4_1
    ·rw [if_pos c3] at H
     have c3b0 : decide (0 ≤ x4_1) = true := decide_eq_true c3
     clear c3
     by_cases c4 : x3_1.length < 3518437208883
     ·rw [if_pos c4] at H
      have LMc4 := Aside0.mk c4
      clear c4
      obtain ⟨y344,hy344⟩ : ∃ y_ : List (S35),y_ = (x3_1 ++ [(⟨(rd_T72 l0 x4_1).f0,(rd_T72 l0 x4_1).f1,(rd_T72 l0 x4_1).f2,(rd_T72 l0 x4_1).f3⟩ : S35)]) := ⟨_,rfl⟩
      replace H : (batonlaw03_given.l0 k1 l0 y344 (wrap64 (x4_1 + 1))) = some r := by first|(rw [hy344];with_reducible exact H)|(have H2_ := (Option.bind_some _ _).symm.trans H;rw [hy344];with_reducible exact H2_)|(have H2_ := (Option.bind_some _ _).symm.trans H;with_reducible exact H2_)|with_reducible exact H|(rw [hy344];exact H)|exact H
      have Ny344 := Aside0.mk hy344
      clear hy344
      have H' := Aside0.mk H
      clear H
      try go_wp2
      have n0_ := Aside0.mk (Kd.R_drew HO_3.out)
      have n1_ := Aside0.mk (below_drew1 HB.out)
      clear HO_3
      clear HB
      have HO_3 := n0_
      have HB := n1_
      clear n0_ n1_
      have p340 : 0 ≤ (x4_1 : Int) := of_decide_eq_true q3_
      have q340 : x4_1 < (l0.length : Int) := of_decide_eq_true q3_
      obtain ⟨ad340,e340,hx340_0,hx340_1,hx340_2,hx340_3⟩ := at_T72 HR0.out x4_1 p340 q340
      have hw340_3 := hx340_3
      have hw340_2 := hx340_2
      have hw340_1 := hx340_1
      have hw340_0 := hx340_0
      cases e340
      replace hx340_0 := (HB.out.cell (World.block_lt_of_cell? w _ hx340_0)).trans hx340_0
      replace hx340_1 := (HB.out.cell (World.block_lt_of_cell? w _ hx340_1)).trans hx340_1
      replace hx340_2 := (HB.out.cell (World.block_lt_of_cell? w _ hx340_2)).trans hx340_2
      replace hx340_3 := (HB.out.cell (World.block_lt_of_cell? w _ hx340_3)).trans hx340_3
      replace p340 := eq_true p340
      replace q340 := eq_true q340
      have p341 : 0 ≤ (x4_1 : Int) := of_decide_eq_true q3_
      have q341 : x4_1 < (l0.length : Int) := of_decide_eq_true q3_
      obtain ⟨ad341,e341,hx341_0,hx341_1,hx341_2,hx341_3⟩ := at_T72 HR0.out x4_1 p341 q341
      have hw341_3 := hx341_3
      have hw341_2 := hx341_2
      have hw341_1 := hx341_1
      have hw341_0 := hx341_0
      obtain rfl : ad340 = ad341 := (by injection e341)
      replace hx341_0 := (HB.out.cell (World.block_lt_of_cell? w _ hx341_0)).trans hx341_0
      replace hx341_1 := (HB.out.cell (World.block_lt_of_cell? w _ hx341_1)).trans hx341_1
      replace hx341_2 := (HB.out.cell (World.block_lt_of_cell? w _ hx341_2)).trans hx341_2
      replace hx341_3 := (HB.out.cell (World.block_lt_of_cell? w _ hx341_3)).trans hx341_3
      replace p341 := eq_true p341
      replace q341 := eq_true q341
      have p342 : 0 ≤ (x4_1 : Int) := of_decide_eq_true q3_
      have q342 : x4_1 < (l0.length : Int) := of_decide_eq_true q3_
      obtain ⟨ad342,e342,hx342_0,hx342_1,hx342_2,hx342_3⟩ := at_T72 HR0.out x4_1 p342 q342
      have hw342_3 := hx342_3
      have hw342_2 := hx342_2
      have hw342_1 := hx342_1
      have hw342_0 := hx342_0
      obtain rfl : ad340 = ad342 := (by injection e342)
      replace hx342_0 := (HB.out.cell (World.block_lt_of_cell? w _ hx342_0)).trans hx342_0
      replace hx342_1 := (HB.out.cell (World.block_lt_of_cell? w _ hx342_1)).trans hx342_1
      replace hx342_2 := (HB.out.cell (World.block_lt_of_cell? w _ hx342_2)).trans hx342_2
      replace hx342_3 := (HB.out.cell (World.block_lt_of_cell? w _ hx342_3)).trans hx342_3
      replace p342 := eq_true p342
      replace q342 := eq_true q342
      have p343 : 0 ≤ (x4_1 : Int) := of_decide_eq_true q3_
      have q343 : x4_1 < (l0.length : Int) := of_decide_eq_true q3_
      obtain ⟨ad343,e343,hx343_0,hx343_1,hx343_2,hx343_3⟩ := at_T72 HR0.out x4_1 p343 q343
      have hw343_3 := hx343_3
      have hw343_2 := hx343_2
      have hw343_1 := hx343_1
      have hw343_0 := hx343_0
      obtain rfl : ad340 = ad343 := (by injection e343)
      replace hx343_0 := (HB.out.cell (World.block_lt_of_cell? w _ hx343_0)).trans hx343_0
      replace hx343_1 := (HB.out.cell (World.block_lt_of_cell? w _ hx343_1)).trans hx343_1
      replace hx343_2 := (HB.out.cell (World.block_lt_of_cell? w _ hx343_2)).trans hx343_2
      replace hx343_3 := (HB.out.cell (World.block_lt_of_cell? w _ hx343_3)).trans hx343_3
      replace p343 := eq_true p343
      replace q343 := eq_true q343
      refine start_ (n := 25) (S := fun w'=>w'.cell? (ad340.add ((x4_1).toNat * 4)) = some (.bool ((rd_T72 l0 x4_1).f0)) ∧ w'.cell? ⟨(ad340.add ((x4_1).toNat * 4)).block,(ad340.add ((x4_1).toNat * 4)).off + 1,none⟩ = some (.string ((rd_T72 l0 x4_1).f1)) ∧ w'.cell? ⟨(ad340.add ((x4_1).toNat * 4)).block,(ad340.add ((x4_1).toNat * 4)).off + 2,none⟩ = some (.int .i64 ((rd_T72 l0 x4_1).f2)) ∧ w'.cell? ⟨(ad340.add ((x4_1).toNat * 4)).block,(ad340.add ((x4_1).toNat * 4)).off + 3,none⟩ = some (.int .i64 ((rd_T72 l0 x4_1).f3)) ∧ w'.cell? (ad340.add ((x4_1).toNat * 4)) = some (.bool ((rd_T72 l0 x4_1).f0)) ∧ w'.cell? ⟨(ad340.add ((x4_1).toNat * 4)).block,(ad340.add ((x4_1).toNat * 4)).off + 1,none⟩ = some (.string ((rd_T72 l0 x4_1).f1)) ∧ w'.cell? ⟨(ad340.add ((x4_1).toNat * 4)).block,(ad340.add ((x4_1).toNat * 4)).off + 2,none⟩ = some (.int .i64 ((rd_T72 l0 x4_1).f2)) ∧ w'.cell? ⟨(ad340.add ((x4_1).toNat * 4)).block,(ad340.add ((x4_1).toNat * 4)).off + 3,none⟩ = some (.int .i64 ((rd_T72 l0 x4_1).f3)) ∧ w'.cell? (ad340.add ((x4_1).toNat * 4)) = some (.bool ((rd_T72 l0 x4_1).f0)) ∧ w'.cell? ⟨(ad340.add ((x4_1).toNat * 4)).block,(ad340.add ((x4_1).toNat * 4)).off + 1,none⟩ = some (.string ((rd_T72 l0 x4_1).f1)) ∧ w'.cell? ⟨(ad340.add ((x4_1).toNat * 4)).block,(ad340.add ((x4_1).toNat * 4)).off + 2,none⟩ = some (.int .i64 ((rd_T72 l0 x4_1).f2)) ∧ w'.cell? ⟨(ad340.add ((x4_1).toNat * 4)).block,(ad340.add ((x4_1).toNat * 4)).off + 3,none⟩ = some (.int .i64 ((rd_T72 l0 x4_1).f3)) ∧ w'.cell? (ad340.add ((x4_1).toNat * 4)) = some (.bool ((rd_T72 l0 x4_1).f0)) ∧ w'.cell? ⟨(ad340.add ((x4_1).toNat * 4)).block,(ad340.add ((x4_1).toNat * 4)).off + 1,none⟩ = some (.string ((rd_T72 l0 x4_1).f1)) ∧ w'.cell? ⟨(ad340.add ((x4_1).toNat * 4)).block,(ad340.add ((x4_1).toNat * 4)).off + 2,none⟩ = some (.int .i64 ((rd_T72 l0 x4_1).f2)) ∧ w'.cell? ⟨(ad340.add ((x4_1).toNat * 4)).block,(ad340.add ((x4_1).toNat * 4)).off + 3,none⟩ = some (.int .i64 ((rd_T72 l0 x4_1).f3))) (ds := []) #[false,false,false,false,false,false,false,false,false,false,false,false,false,false,false,false,false,false,false,false,false,false,false,false,false] q9_ rfl rfl ⟨((HB.out.cell (World.block_lt_of_cell? w _ hw340_0)).trans hw340_0),((HB.out.cell (World.block_lt_of_cell? w _ hw340_1)).trans hw340_1),((HB.out.cell (World.block_lt_of_cell? w _ hw340_2)).trans hw340_2),((HB.out.cell (World.block_lt_of_cell? w _ hw340_3)).trans hw340_3),((HB.out.cell (World.block_lt_of_cell? w _ hw341_0)).trans hw341_0),((HB.out.cell (World.block_lt_of_cell? w _ hw341_1)).trans hw341_1),((HB.out.cell (World.block_lt_of_cell? w _ hw341_2)).trans hw341_2),((HB.out.cell (World.block_lt_of_cell? w _ hw341_3)).trans hw341_3),((HB.out.cell (World.block_lt_of_cell? w _ hw342_0)).trans hw342_0),((HB.out.cell (World.block_lt_of_cell? w _ hw342_1)).trans hw342_1),((HB.out.cell (World.block_lt_of_cell? w _ hw342_2)).trans hw342_2),((HB.out.cell (World.block_lt_of_cell? w _ hw342_3)).trans hw342_3),((HB.out.cell (World.block_lt_of_cell? w _ hw343_0)).trans hw343_0),((HB.out.cell (World.block_lt_of_cell? w _ hw343_1)).trans hw343_1),((HB.out.cell (World.block_lt_of_cell? w _ hw343_2)).trans hw343_2),((HB.out.cell (World.block_lt_of_cell? w _ hw343_3)).trans hw343_3)⟩ (fun hHeld=>?_);refine with_tabW batonlaw03_given.tab5 batonlaw03_given.bits5 (fun HT_ HW_=>?_)
      generalize wr.drew = w5 at HO_3 HB hx340_0 hx340_1 hx340_2 hx340_3 hx341_0 hx341_1 hx341_2 hx341_3 hx342_0 hx342_1 hx342_2 hx342_3 hx343_0 hx343_1 hx343_2 hx343_3 hHeld ⊢
      refine pure_ (i := 0) (N := some 11) (v := ?_) (a' := ?_) #[true,false,false,false,false,false,false,false,false,false,false,false,false,false,false,false,false,false,false,false,false,false,false,false,false] rfl rfl (any_of HT_.out q9_) (fun _ _ _ h=>h) (Or.inl ⟨by rfl,?_⟩) ?_ ?_
      rotate_left
      ·intro w'
       go_simp
       with_reducible rfl
      rotate_left
      ·simp only [Act.put,List.setIfInBounds_toArray,List.set_cons_zero,List.set_cons_succ,i64_w,i32_w]
       rfl
      refine pure_ (i := 1) (N := some 12) (v := ?_) (a' := ?_) #[true,true,false,false,false,false,false,false,false,false,false,false,false,false,false,false,false,false,false,false,false,false,false,false,false] rfl rfl (any_of HT_.out q9_) (fun _ _ _ h=>h) (Or.inl ⟨by rfl,?_⟩) ?_ ?_
      rotate_left
      ·intro w'
       go_simp
       with_reducible rfl
      rotate_left
      ·simp only [Act.put,List.setIfInBounds_toArray,List.set_cons_zero,List.set_cons_succ,i64_w,i32_w]
       rfl
      refine pure_ (i := 2) (N := some 13) (v := ?_) (a' := ?_) #[true,true,true,false,false,false,false,false,false,false,false,false,false,false,false,false,false,false,false,false,false,false,false,false,false] rfl rfl (any_of HT_.out q9_) (fun _ _ _ h=>h) (Or.inl ⟨by rfl,?_⟩) ?_ ?_
      rotate_left
      ·intro w'
       go_simp
       with_reducible rfl
      rotate_left
      ·simp only [Act.put,List.setIfInBounds_toArray,List.set_cons_zero,List.set_cons_succ,i64_w,i32_w]
       rfl
      refine pure_ (i := 3) (N := some 14) (v := ?_) (a' := ?_) #[true,true,true,true,false,false,false,false,false,false,false,false,false,false,false,false,false,false,false,false,false,false,false,false,false] rfl rfl (any_of HT_.out q9_) (fun _ _ _ h=>h) (Or.inl ⟨by rfl,?_⟩) ?_ ?_
      rotate_left
      ·intro w'
       go_simp
       with_reducible rfl
      rotate_left
      ·simp only [Act.put,List.setIfInBounds_toArray,List.set_cons_zero,List.set_cons_succ,i64_w,i32_w]
       rfl
      refine pure_ (i := 4) (N := some 15) (v := ?_) (a' := ?_) #[true,true,true,true,true,false,false,false,false,false,false,false,false,false,false,false,false,false,false,false,false,false,false,false,false] rfl rfl (any_of HT_.out q9_) (fun _ _ _ h=>h) (Or.inl ⟨by rfl,?_⟩) ?_ ?_
      rotate_left
      ·intro w'
       go_simp
       with_reducible rfl
      rotate_left
      ·simp only [Act.put,List.setIfInBounds_toArray,List.set_cons_zero,List.set_cons_succ,i64_w,i32_w]
       rfl
      refine pure_ (i := 6) (N := some 17) (v := ?_) (a' := ?_) #[true,true,true,true,true,false,true,false,false,false,false,false,false,false,false,false,false,false,false,false,false,false,false,false,false] rfl rfl (any_of HT_.out q9_) (fun _ _ _ h=>h) (Or.inl ⟨by rfl,?_⟩) ?_ ?_
      rotate_left
      ·intro w'
       go_simp
       with_reducible rfl
      rotate_left
      ·simp only [Act.put,List.setIfInBounds_toArray,List.set_cons_zero,List.set_cons_succ,i64_w,i32_w]
       rfl
      refine pure_ (i := 7) (N := some 18) (v := ?_) (a' := ?_) #[true,true,true,true,true,false,true,true,false,false,false,false,false,false,false,false,false,false,false,false,false,false,false,false,false] rfl rfl (any_of HT_.out q9_) (fun _ _ _ h=>h) (Or.inl ⟨by rfl,?_⟩) ?_ ?_
      rotate_left
      ·intro w'
       go_simp
       with_reducible rfl
      rotate_left
      ·simp only [Act.put,List.setIfInBounds_toArray,List.set_cons_zero,List.set_cons_succ,i64_w,i32_w]
       rfl
      refine pure_ (i := 8) (N := some 19) (v := ?_) (a' := ?_) #[true,true,true,true,true,false,true,true,true,false,false,false,false,false,false,false,false,false,false,false,false,false,false,false,false] rfl rfl (any_of HT_.out q9_) (fun _ _ _ h=>h) (Or.inl ⟨by rfl,?_⟩) ?_ ?_
      rotate_left
      ·intro w'
       go_simp
       with_reducible rfl
      rotate_left
      ·simp only [Act.put,List.setIfInBounds_toArray,List.set_cons_zero,List.set_cons_succ,i64_w,i32_w]
       rfl
      refine pure_ (i := 9) (N := some 20) (v := ?_) (a' := ?_) #[true,true,true,true,true,false,true,true,true,true,false,false,false,false,false,false,false,false,false,false,false,false,false,false,false] rfl rfl (any_of HT_.out q9_) (fun _ _ _ h=>h) (Or.inl ⟨by rfl,?_⟩) ?_ ?_
      rotate_left
      ·intro w'
       go_simp
       with_reducible rfl
      rotate_left
      ·simp only [Act.put,List.setIfInBounds_toArray,List.set_cons_zero,List.set_cons_succ,i64_w,i32_w]
       rfl
      refine pure_ (i := 11) (N := some 22) (v := ?_) (a' := ?_) #[true,true,true,true,true,false,true,true,true,true,false,true,false,false,false,false,false,false,false,false,false,false,false,false,false] rfl rfl (any_of HT_.out q9_) (fun _ _ _ h=>h) (Or.inl ⟨by rfl,?_⟩) ?_ ?_
      rotate_left
      ·intro w'
       go_simp
       with_reducible rfl
      rotate_left
      ·simp only [Act.put,List.setIfInBounds_toArray,List.set_cons_zero,List.set_cons_succ,i64_w,i32_w]
       rfl
      refine pure_ (i := 12) (N := some 23) (v := ?_) (a' := ?_) #[true,true,true,true,true,false,true,true,true,true,false,true,true,false,false,false,false,false,false,false,false,false,false,false,false] rfl rfl (any_of HT_.out q9_) (fun _ _ _ h=>h) (Or.inl ⟨by rfl,?_⟩) ?_ ?_
      rotate_left
      ·intro w'
       go_simp
       with_reducible rfl
      rotate_left
      ·simp only [Act.put,List.setIfInBounds_toArray,List.set_cons_zero,List.set_cons_succ,i64_w,i32_w]
       rfl
      refine pure_ (i := 13) (N := some 24) (v := ?_) (a' := ?_) #[true,true,true,true,true,false,true,true,true,true,false,true,true,true,false,false,false,false,false,false,false,false,false,false,false] rfl rfl (any_of HT_.out q9_) (fun _ _ _ h=>h) (Or.inl ⟨by rfl,?_⟩) ?_ ?_
      rotate_left
      ·intro w'
       go_simp
       with_reducible rfl
      rotate_left
      ·simp only [Act.put,List.setIfInBounds_toArray,List.set_cons_zero,List.set_cons_succ,i64_w,i32_w]
       rfl
      refine pure_ (i := 14) (N := some 25) (v := ?_) (a' := ?_) #[true,true,true,true,true,false,true,true,true,true,false,true,true,true,true,false,false,false,false,false,false,false,false,false,false] rfl rfl (any_of HT_.out q9_) (fun _ _ _ h=>h) (Or.inl ⟨by rfl,?_⟩) ?_ ?_
      rotate_left
      ·intro w'
       go_simp
       with_reducible rfl
      rotate_left
      ·simp only [Act.put,List.setIfInBounds_toArray,List.set_cons_zero,List.set_cons_succ,i64_w,i32_w]
       rfl
      refine pure_ (i := 16) (N := some 27) (v := ?_) (a' := ?_) #[true,true,true,true,true,false,true,true,true,true,false,true,true,true,true,false,true,false,false,false,false,false,false,false,false] rfl rfl (any_of HT_.out q9_) (fun _ _ _ h=>h) (Or.inl ⟨by rfl,?_⟩) ?_ ?_
      rotate_left
      ·intro w'
       go_simp
       with_reducible rfl
      rotate_left
      ·simp only [Act.put,List.setIfInBounds_toArray,List.set_cons_zero,List.set_cons_succ,i64_w,i32_w]
       rfl
      refine pure_ (i := 17) (N := some 28) (v := ?_) (a' := ?_) #[true,true,true,true,true,false,true,true,true,true,false,true,true,true,true,false,true,true,false,false,false,false,false,false,false] rfl rfl (any_of HT_.out q9_) (fun _ _ _ h=>h) (Or.inl ⟨by rfl,?_⟩) ?_ ?_
      rotate_left
      ·intro w'
       go_simp
       with_reducible rfl
      rotate_left
      ·simp only [Act.put,List.setIfInBounds_toArray,List.set_cons_zero,List.set_cons_succ,i64_w,i32_w]
       rfl
      refine pure_ (i := 18) (N := some 29) (v := ?_) (a' := ?_) #[true,true,true,true,true,false,true,true,true,true,false,true,true,true,true,false,true,true,true,false,false,false,false,false,false] rfl rfl (any_of HT_.out q9_) (fun _ _ _ h=>h) (Or.inl ⟨by rfl,?_⟩) ?_ ?_
      rotate_left
      ·intro w'
       go_simp
       with_reducible rfl
      rotate_left
      ·simp only [Act.put,List.setIfInBounds_toArray,List.set_cons_zero,List.set_cons_succ,i64_w,i32_w]
       rfl
      refine pure_ (i := 19) (N := some 30) (v := ?_) (a' := ?_) #[true,true,true,true,true,false,true,true,true,true,false,true,true,true,true,false,true,true,true,true,false,false,false,false,false] rfl rfl (any_of HT_.out q9_) (fun _ _ _ h=>h) (Or.inl ⟨by rfl,?_⟩) ?_ ?_
      rotate_left
      ·intro w'
       go_simp
       with_reducible rfl
      rotate_left
      ·simp only [Act.put,List.setIfInBounds_toArray,List.set_cons_zero,List.set_cons_succ,i64_w,i32_w]
       rfl
      refine take_ (i := 5) (N := some 16) (v := ?_) (a' := ?_) #[true,true,true,true,true,true,true,true,true,true,false,true,true,true,true,false,true,true,true,true,false,false,false,false,false] rfl rfl (take_ofW HT_.out HW_.out q9_) (fun _ _ _ h=>h) (Or.inl ⟨by rfl,?_⟩) hHeld ?_ ?_
      rotate_left
      ·rintro w' ⟨s0,s1,s2,s3,s4,s5,s6,s7,s8,s9,s10,s11,s12,s13,s14,s15⟩
       go_simp
       with_reducible rfl
      rotate_left
      ·simp only [Act.put,List.setIfInBounds_toArray,List.set_cons_zero,List.set_cons_succ,i64_w,i32_w]
       rfl
      refine take_ (i := 10) (N := some 21) (v := ?_) (a' := ?_) #[true,true,true,true,true,true,true,true,true,true,true,true,true,true,true,false,true,true,true,true,false,false,false,false,false] rfl rfl (take_ofW HT_.out HW_.out q9_) (fun _ _ _ h=>h) (Or.inl ⟨by rfl,?_⟩) hHeld ?_ ?_
      rotate_left
      ·rintro w' ⟨s0,s1,s2,s3,s4,s5,s6,s7,s8,s9,s10,s11,s12,s13,s14,s15⟩
       go_simp
       with_reducible rfl
      rotate_left
      ·simp only [Act.put,List.setIfInBounds_toArray,List.set_cons_zero,List.set_cons_succ,i64_w,i32_w]
       rfl
      refine take_ (i := 15) (N := some 26) (v := ?_) (a' := ?_) #[true,true,true,true,true,true,true,true,true,true,true,true,true,true,true,true,true,true,true,true,false,false,false,false,false] rfl rfl (take_ofW HT_.out HW_.out q9_) (fun _ _ _ h=>h) (Or.inl ⟨by rfl,?_⟩) hHeld ?_ ?_
      rotate_left
      ·rintro w' ⟨s0,s1,s2,s3,s4,s5,s6,s7,s8,s9,s10,s11,s12,s13,s14,s15⟩
       go_simp
       with_reducible rfl
      rotate_left
      ·simp only [Act.put,List.setIfInBounds_toArray,List.set_cons_zero,List.set_cons_succ,i64_w,i32_w]
       rfl
      refine take_ (i := 20) (N := some 31) (v := ?_) (a' := ?_) #[true,true,true,true,true,true,true,true,true,true,true,true,true,true,true,true,true,true,true,true,true,false,false,false,false] rfl rfl (take_ofW HT_.out HW_.out q9_) (fun _ _ _ h=>h) (Or.inl ⟨by rfl,?_⟩) hHeld ?_ ?_
      rotate_left
      ·rintro w' ⟨s0,s1,s2,s3,s4,s5,s6,s7,s8,s9,s10,s11,s12,s13,s14,s15⟩
       go_simp
       with_reducible rfl
      rotate_left
      ·simp only [Act.put,List.setIfInBounds_toArray,List.set_cons_zero,List.set_cons_succ,i64_w,i32_w]
       rfl
      refine pure_ (i := 21) (N := some 32) (v := ?_) (a' := ?_) #[true,true,true,true,true,true,true,true,true,true,true,true,true,true,true,true,true,true,true,true,true,true,false,false,false] rfl rfl (any_of HT_.out q9_) (fun _ _ _ h=>h) (Or.inl ⟨by rfl,?_⟩) ?_ ?_
      rotate_left
      ·intro w'
       go_simp
       with_reducible rfl
      rotate_left
      ·simp only [Act.put,List.setIfInBounds_toArray,List.set_cons_zero,List.set_cons_succ,i64_w,i32_w]
       rfl
      refine one_ (i := 22) (N := some 33) #[true,true,true,true,true,true,true,true,true,true,true,true,true,true,true,true,true,true,true,true,true,true,true,false,false] rfl rfl (one_of HT_.out q9_) (by decide) (fun K hK=>?_)
      refine value_ (w1 := ?_) (v := ?_) (by rfl) rfl ?_ ?_
      rotate_left 2
      ·go_simp
       constructor
       ·rfl
       ·rfl
      refine hK.out _ _ ⟨(World.cell?_alloc_lt _ _ _ (World.block_lt_of_cell? _ _ (((HB.out.cell (World.block_lt_of_cell? w _ hw340_0)).trans hw340_0)))).trans (((HB.out.cell (World.block_lt_of_cell? w _ hw340_0)).trans hw340_0)),(World.cell?_alloc_lt _ _ _ (World.block_lt_of_cell? _ _ (((HB.out.cell (World.block_lt_of_cell? w _ hw340_1)).trans hw340_1)))).trans (((HB.out.cell (World.block_lt_of_cell? w _ hw340_1)).trans hw340_1)),(World.cell?_alloc_lt _ _ _ (World.block_lt_of_cell? _ _ (((HB.out.cell (World.block_lt_of_cell? w _ hw340_2)).trans hw340_2)))).trans (((HB.out.cell (World.block_lt_of_cell? w _ hw340_2)).trans hw340_2)),(World.cell?_alloc_lt _ _ _ (World.block_lt_of_cell? _ _ (((HB.out.cell (World.block_lt_of_cell? w _ hw340_3)).trans hw340_3)))).trans (((HB.out.cell (World.block_lt_of_cell? w _ hw340_3)).trans hw340_3)),(World.cell?_alloc_lt _ _ _ (World.block_lt_of_cell? _ _ (((HB.out.cell (World.block_lt_of_cell? w _ hw341_0)).trans hw341_0)))).trans (((HB.out.cell (World.block_lt_of_cell? w _ hw341_0)).trans hw341_0)),(World.cell?_alloc_lt _ _ _ (World.block_lt_of_cell? _ _ (((HB.out.cell (World.block_lt_of_cell? w _ hw341_1)).trans hw341_1)))).trans (((HB.out.cell (World.block_lt_of_cell? w _ hw341_1)).trans hw341_1)),(World.cell?_alloc_lt _ _ _ (World.block_lt_of_cell? _ _ (((HB.out.cell (World.block_lt_of_cell? w _ hw341_2)).trans hw341_2)))).trans (((HB.out.cell (World.block_lt_of_cell? w _ hw341_2)).trans hw341_2)),(World.cell?_alloc_lt _ _ _ (World.block_lt_of_cell? _ _ (((HB.out.cell (World.block_lt_of_cell? w _ hw341_3)).trans hw341_3)))).trans (((HB.out.cell (World.block_lt_of_cell? w _ hw341_3)).trans hw341_3)),(World.cell?_alloc_lt _ _ _ (World.block_lt_of_cell? _ _ (((HB.out.cell (World.block_lt_of_cell? w _ hw342_0)).trans hw342_0)))).trans (((HB.out.cell (World.block_lt_of_cell? w _ hw342_0)).trans hw342_0)),(World.cell?_alloc_lt _ _ _ (World.block_lt_of_cell? _ _ (((HB.out.cell (World.block_lt_of_cell? w _ hw342_1)).trans hw342_1)))).trans (((HB.out.cell (World.block_lt_of_cell? w _ hw342_1)).trans hw342_1)),(World.cell?_alloc_lt _ _ _ (World.block_lt_of_cell? _ _ (((HB.out.cell (World.block_lt_of_cell? w _ hw342_2)).trans hw342_2)))).trans (((HB.out.cell (World.block_lt_of_cell? w _ hw342_2)).trans hw342_2)),(World.cell?_alloc_lt _ _ _ (World.block_lt_of_cell? _ _ (((HB.out.cell (World.block_lt_of_cell? w _ hw342_3)).trans hw342_3)))).trans (((HB.out.cell (World.block_lt_of_cell? w _ hw342_3)).trans hw342_3)),(World.cell?_alloc_lt _ _ _ (World.block_lt_of_cell? _ _ (((HB.out.cell (World.block_lt_of_cell? w _ hw343_0)).trans hw343_0)))).trans (((HB.out.cell (World.block_lt_of_cell? w _ hw343_0)).trans hw343_0)),(World.cell?_alloc_lt _ _ _ (World.block_lt_of_cell? _ _ (((HB.out.cell (World.block_lt_of_cell? w _ hw343_1)).trans hw343_1)))).trans (((HB.out.cell (World.block_lt_of_cell? w _ hw343_1)).trans hw343_1)),(World.cell?_alloc_lt _ _ _ (World.block_lt_of_cell? _ _ (((HB.out.cell (World.block_lt_of_cell? w _ hw343_2)).trans hw343_2)))).trans (((HB.out.cell (World.block_lt_of_cell? w _ hw343_2)).trans hw343_2)),(World.cell?_alloc_lt _ _ _ (World.block_lt_of_cell? _ _ (((HB.out.cell (World.block_lt_of_cell? w _ hw343_3)).trans hw343_3)))).trans (((HB.out.cell (World.block_lt_of_cell? w _ hw343_3)).trans hw343_3))⟩ (fun hHeld=>?_)
      clear hK K
      refine norm_ (a' := ?_) ?_ ?_
      rotate_left
      ·show Act.put _ (some 33) _ = _
       simp only [Act.put,List.setIfInBounds_toArray,List.set_cons_zero,List.set_cons_succ,i64_w,i32_w]
       rfl
      refine one_ (i := 23) (N := some 34) #[true,true,true,true,true,true,true,true,true,true,true,true,true,true,true,true,true,true,true,true,true,true,true,true,false] rfl rfl (one_of HT_.out q9_) (by decide) (fun K hK=>?_)
      refine Kd.R_append_step k35 (w0 := w) w.heap.size (by rfl) (.tmp 11) (.tmp 33) 30 35 (.agg #[(.bool false),(.string ⟨#[]⟩),(.int .i64 0),(.int .i64 0)]) 40 rfl Try.underlying30 info35 rfl (by decide) q75_ u3 x3_1 (⟨(rd_T72 l0 x4_1).f0,(rd_T72 l0 x4_1).f1,(rd_T72 l0 x4_1).f2,(rd_T72 l0 x4_1).f3⟩ : S35) [.bool ((rd_T72 l0 x4_1).f0),.string ((rd_T72 l0 x4_1).f1),.int .i64 ((rd_T72 l0 x4_1).f2),.int .i64 ((rd_T72 l0 x4_1).f3)] (fun _=>True) (fun _=>False) rfl rfl ?aP (fun _ hk=>hk.elim) ?aF ?aO ?aB ?aS ?aL ?_
      (case aP=>exact k35_mkM _ _ _ (⟨(rd_T72 l0 x4_1).f0,(rd_T72 l0 x4_1).f1,(rd_T72 l0 x4_1).f2,(rd_T72 l0 x4_1).f3⟩ : S35))
      (case aB=>exact (bl_))
      (case aF=>exact (fun _ _=>trivial))
      (case aO=>exact q19_)
      (case aS=>exact (below_size (bl_)))
      (case aL=>have := LMc4.out;omega)
      intro v345 w6 ho hb hg hat
      rw [← Ny344.out] at ho
      have n0_ := Aside0.mk (hb)
      have n1_ := Aside0.mk (ho)
      clear HB
      clear HO_3
      have HB := n0_
      have HO346 := n1_
      clear n0_ n1_
      clear ho hb hg hat
      refine hK.out _ _ ⟨((HB.out.cell (World.block_lt_of_cell? w _ hw340_0)).trans hw340_0),((HB.out.cell (World.block_lt_of_cell? w _ hw340_1)).trans hw340_1),((HB.out.cell (World.block_lt_of_cell? w _ hw340_2)).trans hw340_2),((HB.out.cell (World.block_lt_of_cell? w _ hw340_3)).trans hw340_3),((HB.out.cell (World.block_lt_of_cell? w _ hw341_0)).trans hw341_0),((HB.out.cell (World.block_lt_of_cell? w _ hw341_1)).trans hw341_1),((HB.out.cell (World.block_lt_of_cell? w _ hw341_2)).trans hw341_2),((HB.out.cell (World.block_lt_of_cell? w _ hw341_3)).trans hw341_3),((HB.out.cell (World.block_lt_of_cell? w _ hw342_0)).trans hw342_0),((HB.out.cell (World.block_lt_of_cell? w _ hw342_1)).trans hw342_1),((HB.out.cell (World.block_lt_of_cell? w _ hw342_2)).trans hw342_2),((HB.out.cell (World.block_lt_of_cell? w _ hw342_3)).trans hw342_3),((HB.out.cell (World.block_lt_of_cell? w _ hw343_0)).trans hw343_0),((HB.out.cell (World.block_lt_of_cell? w _ hw343_1)).trans hw343_1),((HB.out.cell (World.block_lt_of_cell? w _ hw343_2)).trans hw343_2),((HB.out.cell (World.block_lt_of_cell? w _ hw343_3)).trans hw343_3)⟩ (fun hHeld=>?_)
      clear hK K
      refine norm_ (a' := ?_) ?_ ?_
      rotate_left
      ·show Act.put _ (some 34) _ = _
       simp only [Act.put,List.setIfInBounds_toArray,List.set_cons_zero,List.set_cons_succ,i64_w,i32_w]
       rfl
      refine pure_ (i := 24) (N := some 3) (v := ?_) (a' := ?_) #[true,true,true,true,true,true,true,true,true,true,true,true,true,true,true,true,true,true,true,true,true,true,true,true,true] rfl rfl (any_of HT_.out q9_) (fun _ _ _ h=>h) (Or.inl ⟨by rfl,?_⟩) ?_ ?_
      rotate_left
      ·intro w'
       go_simp
       with_reducible rfl
      rotate_left
      ·simp only [Act.put,List.setIfInBounds_toArray,List.set_cons_zero,List.set_cons_succ,i64_w,i32_w]
       rfl
      refine done_ (done_of HT_.out q9_) ?_
      try go_wp2
      go_roundg k1
      case measure=>have := HK1.out;omega
      case rel=>exact ⟨(y344),(wrap64 (x4_1 + 1)),q4_,H',⟨q85_⟩,⟨by (with_reducible repeat (first|apply Kd.R_alloc|apply Kd.R_drewN|apply Kd.R_drew));exact HO346.out⟩,⟨bl_⟩⟩
     ·rw [if_neg c4] at H
      exact absurd H (by simp)
    ·rw [if_neg c3] at H
     exact absurd H (by simp)
   ·rw [if_neg c2] at H
    have c2b0 : decide (x4_1 < (l0.length : Int)) = false := decide_eq_false c2
    clear c2
    obtain rfl := Option.some.inj H
    go_wp2
    go_ret
    exact ⟨_,q1_,q19_,bl_⟩

end Go.Proofs.Ythcjcmgdblhhfaa.PV

/- The machine side of these statements: what each Go function computes as a plain function, and that its call computes just that. Written by a program of mine (wip/drive.py). No conditions. -/
import Derived.Test.YthcjcmgdblhhfaaPVx0
namespace Go.Proofs.Ythcjcmgdblhhfaa.PV
open Go.RowKit Go.Proofs.YthcjcmgdblhhfaaW.PrintWords Go.Proofs.YthcjcmgdblhhfaaW.PrintLast Go.Proofs.YthcjcmgdblhhfaaW.PrintMore
attribute [local go_sem] max2_int min2_int max_two min_two max_three min_three max_four min_four   -- for this text's walks alone
set_option linter.unusedVariables false
set_option linter.unusedSimpArgs false

/-! ### batonref03_bytes: function 57 -/
def batonref03_bytes.l0 : Nat → Int → Int → ByteArray → Int → Option (ByteArray)
 | 0,_,_,_,_=>none
 | k + 1,x0,x1,x5,x6=>if x6 < x1 then ((some (([(Int.tmod x0 256) % 256] : List Int) : List Int)).bind fun y358=>(if x5.size + (strOfNums y358).size ≤ 9223372036854775807 then (batonref03_bytes.l0 k (wrap64 (Int.tdiv x0 256)) x1 (x5 ++ (strOfNums y358)) (wrap64 (x6 + 1))) else (none))) else (some x5)
def batonref03_bytes.f (k : Nat) (a0 : Int) (a1 : Int) : Option (ByteArray) := batonref03_bytes.l0 k a0 a1 (⟨#[]⟩ : ByteArray) 0
theorem batonref03_bytes.mono_l : ∀ k, (∀ y0 y1 y2 y3, LeO (batonref03_bytes.l0 k y0 y1 y2 y3) (batonref03_bytes.l0 (k + 1) y0 y1 y2 y3))
 | 0=>fun _ _ _ _ r h=>by simp [batonref03_bytes.l0] at h
 | k + 1=>by
  have ih0 := batonref03_bytes.mono_l k
  ·intro y0 y1 y2 y3
   unfold batonref03_bytes.l0
   repeat' first
   | (with_reducible exact ih0 _ _ _ _)
   | (with_reducible exact LeO.refl _)
   | (with_reducible exact LeO.none _)
   | (with_reducible refine LeO.ite ?_ ?_)
   | (with_reducible refine LeO.bind ?_ (fun _=>?_))
   | exact ih0 _ _ _ _
   | exact LeO.none _
   | refine LeO.ite ?_ ?_
   | refine LeO.bind ?_ (fun _=>?_)
theorem batonref03_bytes.mono : ∀ a0 a1 k, LeO (batonref03_bytes.f k a0 a1) (batonref03_bytes.f (k + 1) a0 a1) := by
 intro a0 a1 k
 have ih0 := batonref03_bytes.mono_l k
 unfold batonref03_bytes.f
 repeat' first
   | (with_reducible exact ih0 _ _ _ _)
   | (with_reducible exact LeO.refl _)
   | (with_reducible exact LeO.none _)
   | (with_reducible refine LeO.ite ?_ ?_)
   | (with_reducible refine LeO.bind ?_ (fun _=>?_))
   | exact ih0 _ _ _ _
   | exact LeO.none _
   | refine LeO.ite ?_ ?_
   | refine LeO.bind ?_ (fun _=>?_)
set_option maxHeartbeats 8000000 in
set_option maxRecDepth 100000 in
theorem batonref03_bytes.calls (k : Nat) (a0 : Int) (a1 : Int) (r : ByteArray) (w : World) (h : batonref03_bytes.f k a0 a1 = some r) :
  Calls Try.prog 57 #[.int .i64 a0,.int .i64 a1] w fun e w'=>e = .returned (.string r) ∧ Below w.heap.size w w' := by
 have HB := Aside0.mk (Below.refl w.heap.size w)
 have H : (batonref03_bytes.l0 k a0 a1 (⟨#[]⟩ : ByteArray) 0) = some r := h
 clear h
 have H' := Aside0.mk H
 clear H
 go_enter Try.func57,Try.ntmps57
 go_wp2
 go_loopg [0,5,6] k (fun kq v0 v5 v6 w'=>∃ (x0_1 : Int) (x5_1 : ByteArray) (x6_1 : Int),v0 = .int .i64 x0_1 ∧ v5 = .string x5_1 ∧ v6 = .int .i64 x6_1 ∧ Aside0 (batonref03_bytes.l0 kq x0_1 a1 x5_1 x6_1 = some r) ∧ Aside0 (kq ≤ k) ∧ Aside0 (Below w.heap.size w w'))
 case atStart=>exact ⟨(a0),((⟨#[]⟩ : ByteArray)),(0),q4_,q4_,q4_,H',⟨Nat.le_refl _⟩,⟨bl_⟩⟩
 case round =>
  clear H'
  try clear p2
  obtain ⟨x0_1,x5_1,x6_1,rfl,rfl,rfl,HA,HK1,HB⟩ := hrel
  cases gk with
  | zero=>exact absurd HA.out (by simp [batonref03_bytes.l0])
  | succ k1 =>
   have H := HA.out
   clear HA
   simp only [batonref03_bytes.l0] at H
   by_cases c3 : x6_1 < a1
   ·rw [if_pos c3] at H
    have c3b0 : decide (x6_1 < a1) = true := decide_eq_true c3
    clear c3
    obtain ⟨y358,hy358⟩ : ∃ y_ : List Int,y_ = (([(Int.tmod x0_1 256) % 256] : List Int)) := ⟨_,rfl⟩
    replace H : (if x5_1.size + (strOfNums y358).size ≤ 9223372036854775807 then (batonref03_bytes.l0 k1 (wrap64 (Int.tdiv x0_1 256)) a1 (x5_1 ++ (strOfNums y358)) (wrap64 (x6_1 + 1))) else (none)) = some r := by first|(rw [hy358];with_reducible exact H)|(have H2_ := (Option.bind_some _ _).symm.trans H;rw [hy358];with_reducible exact H2_)|(have H2_ := (Option.bind_some _ _).symm.trans H;with_reducible exact H2_)|with_reducible exact H|(rw [hy358];exact H)|exact H
    have Ny358 := Aside0.mk hy358
    clear hy358
    by_cases c4 : x5_1.size + (strOfNums y358).size ≤ 9223372036854775807
    ·rw [if_pos c4] at H
     have c4b0 := eq_true c4
     have c4b1 : decide (x5_1.size + (strOfNums y358).size ≤ 9223372036854775807) = true := decide_eq_true c4
     try have c4b2 : (9223372036854775807 < x5_1.size + (strOfNums y358).size) = False := eq_false (Nat.not_lt.2 c4)
     have H' := Aside0.mk H
     clear H
     go_wp2_with (first|((with_reducible refine gate_dst (N := 16) rfl ?_);refine Kd.R_lit (Kd.int .u8) _ 5 ?hg (N := 16) ?hd (xs := ([(Int.tmod x0_1 256) % 256] : List Int)) (inner := [.int .u8 ((Int.tmod x0_1 256) % 256)]) (ok := fun _=>True) (okp := fun _=>True) ?hr ?hp (fun _ hk=>hk) trivial (Below.refl _ _) (Nat.le_refl _) (by simp) ?_;(case hd=>rfl);(case hg=>rfl);(case hr=>first|(go_simp;done)|(go_simp;rfl)|(go_simp;simp [my_u8w];done));(case hp=>exact (Reps.one (show Kd.M (Kd.int .u8) _ _ _ ((Int.tmod x0_1 256) % 256) [.int .u8 ((Int.tmod x0_1 256) % 256)] from rfl) (Reps.none _ _)));intro v359 w5 ho6 hb hg_ hnew_;clear hg_ hnew_;(first|rw [← Ny358.out] at ho6|(simp only [Int.reduceToNat] at ho6;rw [← Ny358.out] at ho6));have n0_ := Aside0.mk (Kd.R_lower ho6 (below_size (bl_)));have n1_ := Aside0.mk (below_step (bl_) hb);clear HB;have HO360 := n0_;have HB := n1_;clear n0_ n1_;clear hb ho6;have hcv7 := own_string (P := Try.prog) Try.underlying28 Try.underlying5 Try.underlying9 (Kd.own_of_R HO360.out)))
     go_roundg k1
     case measure=>have := HK1.out;omega
     case rel=>exact ⟨(wrap64 (Int.tdiv x0_1 256)),(x5_1 ++ (strOfNums y358)),(wrap64 (x6_1 + 1)),q4_,q4_,q4_,H',⟨q85_⟩,⟨bl_⟩⟩
    ·rw [if_neg c4] at H
     exact absurd H (by simp)
   ·rw [if_neg c3] at H
    have c3b0 : decide (x6_1 < a1) = false := decide_eq_false c3
    clear c3
    obtain rfl := Option.some.inj H
    go_wp2
    go_ret
    exact ⟨q1_,bl_⟩

end Go.Proofs.Ythcjcmgdblhhfaa.PV

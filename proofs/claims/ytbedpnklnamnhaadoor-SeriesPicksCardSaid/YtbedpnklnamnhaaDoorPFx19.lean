/- The machine side of these statements: what each Go function computes as a plain function, and that its call computes just that. Written by a program of mine (wip/drive.py). No conditions. -/
import Derived.Test.YtbedpnklnamnhaaDoorPFx0
namespace Go.Proofs.YtbedpnklnamnhaaDoor.PF
open Go.RowKit Go.Proofs.YtbedpnklnamnhaaDoorW.PrintWords Go.Proofs.YtbedpnklnamnhaaDoorW.PrintLast Go.Proofs.YtbedpnklnamnhaaDoorW.PrintMore
attribute [local go_sem] max2_int min2_int max_two min_two max_three min_three max_four min_four   -- for this text's walks alone
set_option linter.unusedVariables false
set_option linter.unusedSimpArgs false

/-! ### batonref22_Word: function 12 -/
def batonref22_Word.j0 : Nat → Int → Bool → Option (ByteArray)
 | 0,_,_=>none
 | k + 1,x0,x9=>if x9 = true then ((some (([(⟨#[110,101,119]⟩ : ByteArray),(⟨#[107,110,111,119,110]⟩ : ByteArray),(⟨#[111,116,104,101,114]⟩ : ByteArray),(⟨#[108,97,116,101]⟩ : ByteArray)] : List ByteArray) : List ByteArray)).bind fun y273=>(if 0 ≤ ((x0 - 1) % 256) then (if ((x0 - 1) % 256) < (y273.length : Int) then (some (rdOf ByteArray.empty y273 ((x0 - 1) % 256))) else (none)) else (none))) else ((some (([(48 + (Int.tmod x0 10)) % 256] : List Int) : List Int)).bind fun y277=>(if x0 ≥ 10 then ((some (([48 + (((Int.tdiv x0 10) % 256) % 10)] : List Int) : List Int)).bind fun y280=>(if (strOfNums y280).size + (strOfNums y277).size ≤ 9223372036854775807 then (if x0 ≥ 100 then ((some (([(48 + ((Int.tdiv x0 100) % 256)) % 256] : List Int) : List Int)).bind fun y283=>(if (strOfNums y283).size + ((strOfNums y280) ++ (strOfNums y277)).size ≤ 9223372036854775807 then (some ((strOfNums y283) ++ ((strOfNums y280) ++ (strOfNums y277)))) else (none))) else (some ((strOfNums y280) ++ (strOfNums y277)))) else (none))) else (if x0 ≥ 100 then ((some (([(48 + ((Int.tdiv x0 100) % 256)) % 256] : List Int) : List Int)).bind fun y286=>(if (strOfNums y286).size + (strOfNums y277).size ≤ 9223372036854775807 then (some ((strOfNums y286) ++ (strOfNums y277))) else (none))) else (some (strOfNums y277)))))
def batonref22_Word.f (k : Nat) (a0 : Int) : Option (ByteArray) := if a0 ≥ 1 then (batonref22_Word.j0 k a0 (decide (a0 ≤ 4))) else (batonref22_Word.j0 k a0 false)
theorem batonref22_Word.mono_l : ∀ k, (∀ y0 y1, LeO (batonref22_Word.j0 k y0 y1) (batonref22_Word.j0 (k + 1) y0 y1))
 | 0=>fun _ _ r h=>by simp [batonref22_Word.j0] at h
 | k + 1=>by
  have ih0 := batonref22_Word.mono_l k
  ·intro y0 y1
   unfold batonref22_Word.j0
   repeat' first
   | (with_reducible exact ih0 _ _)
   | (with_reducible exact LeO.refl _)
   | (with_reducible exact LeO.none _)
   | (with_reducible refine LeO.ite ?_ ?_)
   | (with_reducible refine LeO.bind ?_ (fun _=>?_))
   | exact ih0 _ _
   | exact LeO.none _
   | refine LeO.ite ?_ ?_
   | refine LeO.bind ?_ (fun _=>?_)
theorem batonref22_Word.mono : ∀ a0 k, LeO (batonref22_Word.f k a0) (batonref22_Word.f (k + 1) a0) := by
 intro a0 k
 have ih0 := batonref22_Word.mono_l k
 unfold batonref22_Word.f
 repeat' first
   | (with_reducible exact ih0 _ _)
   | (with_reducible exact LeO.refl _)
   | (with_reducible exact LeO.none _)
   | (with_reducible refine LeO.ite ?_ ?_)
   | (with_reducible refine LeO.bind ?_ (fun _=>?_))
   | exact ih0 _ _
   | exact LeO.none _
   | refine LeO.ite ?_ ?_
   | refine LeO.bind ?_ (fun _=>?_)
set_option maxHeartbeats 8000000 in
set_option maxRecDepth 100000 in
theorem batonref22_Word.calls (k : Nat) (a0 : Int) (r : ByteArray) (w : World) (h : batonref22_Word.f k a0 = some r) :
  Calls Tryd.prog 12 #[.int .u8 a0] w fun e w'=>e = .returned (.string r) ∧ Below w.heap.size w w' := by
 have HB := Aside0.mk (Below.refl w.heap.size w)
 have H : (if a0 ≥ 1 then (batonref22_Word.j0 k a0 (decide (a0 ≤ 4))) else (batonref22_Word.j0 k a0 false)) = some r := h
 clear h
 have HC2 := Aside0.mk H
 clear H
 go_enter Tryd.func12,Tryd.ntmps12
 go_upto_region 1 with (fail)
 go_cut [9] (fun v9 wc=>∃ (kq : Nat) (x9_1 : Bool),v9 = .bool x9_1 ∧ Aside0 (batonref22_Word.j0 kq a0 x9_1 = some r) ∧ Aside0 (kq ≤ k) ∧ Aside0 (Below w.heap.size w wc))
 case first =>
  have H := HC2.out
  clear HC2
  by_cases c3 : a0 ≥ 1
  ·rw [if_pos c3] at H
   have c3b0 : decide (1 ≤ a0) = true := decide_eq_true c3
   clear c3
   (first|rw [c3b0]|(simp only [i64_w,i32_w];rw [c3b0])|skip)
   have H' := Aside0.mk H
   clear H
   go_wp2
   go_meet
   case rel=>exact ⟨_,(decide (a0 ≤ 4)),q10_,H',⟨q45_⟩,⟨bl_⟩⟩
  ·rw [if_neg c3] at H
   have c3b0 : decide (1 ≤ a0) = false := decide_eq_false c3
   clear c3
   (first|rw [c3b0]|(simp only [i64_w,i32_w];rw [c3b0])|skip)
   have H' := Aside0.mk H
   clear H
   go_wp2
   go_meet
   case rel=>exact ⟨_,(false),q10_,H',⟨q45_⟩,⟨bl_⟩⟩
 case rest =>
  clear HC2
  try clear c1
  try clear p2
  try clear c3
  try clear c3b0
  obtain ⟨kq,x9_1,rfl,HA,HJ1,HB⟩ := hcut
  cases kq with
  | zero=>exact absurd HA.out (by simp [batonref22_Word.j0])
  | succ kj1 =>
   have H := HA.out
   clear HA
   simp only [batonref22_Word.j0] at H
   by_cases c4 : x9_1 = true
   ·subst c4
    have H1 : ((some (([(⟨#[110,101,119]⟩ : ByteArray),(⟨#[107,110,111,119,110]⟩ : ByteArray),(⟨#[111,116,104,101,114]⟩ : ByteArray),(⟨#[108,97,116,101]⟩ : ByteArray)] : List ByteArray) : List ByteArray)).bind fun y273=>(if 0 ≤ ((a0 - 1) % 256) then (if ((a0 - 1) % 256) < (y273.length : Int) then (some (rdOf ByteArray.empty y273 ((a0 - 1) % 256))) else (none)) else (none))) = some r := by rw [if_pos rfl] at H;exact H
    clear H
    have H := H1
    clear H1
    obtain ⟨y273,hy273⟩ : ∃ y_ : List ByteArray,y_ = (([(⟨#[110,101,119]⟩ : ByteArray),(⟨#[107,110,111,119,110]⟩ : ByteArray),(⟨#[111,116,104,101,114]⟩ : ByteArray),(⟨#[108,97,116,101]⟩ : ByteArray)] : List ByteArray)) := ⟨_,rfl⟩
    replace H : (if 0 ≤ ((a0 - 1) % 256) then (if ((a0 - 1) % 256) < (y273.length : Int) then (some (rdOf ByteArray.empty y273 ((a0 - 1) % 256))) else (none)) else (none)) = some r := by first|(rw [hy273];with_reducible exact H)|(have H2_ := (Option.bind_some _ _).symm.trans H;rw [hy273];with_reducible exact H2_)|(have H2_ := (Option.bind_some _ _).symm.trans H;with_reducible exact H2_)|with_reducible exact H|(rw [hy273];exact H)|exact H
    have Ny273 := Aside0.mk hy273
    clear hy273
    obtain ⟨ji5,hji5⟩ : ∃ j_ : Int,((a0 - 1) % 256) = j_ := ⟨_,rfl⟩
    replace H : (if 0 ≤ (ji5) then (if (ji5) < (y273.length : Int) then (some (rdOf ByteArray.empty y273 (ji5))) else (none)) else (none)) = some r := by first|(rw [hji5] at H;exact H)|(simp only [hji5] at H ⊢;exact H)
    by_cases c6 : 0 ≤ (ji5)
    ·rw [if_pos c6] at H
     have c6b0 : decide (0 ≤ (ji5)) = true := decide_eq_true c6
     clear c6
     by_cases c7 : (ji5) < (y273.length : Int)
     ·rw [if_pos c7] at H
      have c7b0 : decide ((ji5) < (y273.length : Int)) = true := decide_eq_true c7
      clear c7
      obtain rfl := Option.some.inj H
      go_wp2_with (first|((with_reducible refine gate_dst (N := 10) rfl ?_);refine Kd.R_lit Kd.string _ 9 ?hg (N := 10) ?hd (xs := ([(⟨#[110,101,119]⟩ : ByteArray),(⟨#[107,110,111,119,110]⟩ : ByteArray),(⟨#[111,116,104,101,114]⟩ : ByteArray),(⟨#[108,97,116,101]⟩ : ByteArray)] : List ByteArray)) (inner := [.string (⟨#[110,101,119]⟩ : ByteArray),.string (⟨#[107,110,111,119,110]⟩ : ByteArray),.string (⟨#[111,116,104,101,114]⟩ : ByteArray),.string (⟨#[108,97,116,101]⟩ : ByteArray)]) (ok := fun _=>True) (okp := fun _=>True) ?hr ?hp (fun _ hk=>hk) trivial (Below.refl _ _) (Nat.le_refl _) (by simp) ?_;(case hd=>rfl);(case hg=>rfl);(case hr=>first|(go_simp;done)|(go_simp;rfl)|(go_simp;simp [my_u8w];done));(case hp=>exact (Reps.one (show Kd.M Kd.string _ _ _ (⟨#[110,101,119]⟩ : ByteArray) [.string (⟨#[110,101,119]⟩ : ByteArray)] from rfl) (Reps.one (show Kd.M Kd.string _ _ _ (⟨#[107,110,111,119,110]⟩ : ByteArray) [.string (⟨#[107,110,111,119,110]⟩ : ByteArray)] from rfl) (Reps.one (show Kd.M Kd.string _ _ _ (⟨#[111,116,104,101,114]⟩ : ByteArray) [.string (⟨#[111,116,104,101,114]⟩ : ByteArray)] from rfl) (Reps.one (show Kd.M Kd.string _ _ _ (⟨#[108,97,116,101]⟩ : ByteArray) [.string (⟨#[108,97,116,101]⟩ : ByteArray)] from rfl) (Reps.none _ _))))));intro v274 w8 ho9 hb hg_ hnew_;clear hg_ hnew_;(first|rw [← Ny273.out] at ho9|(simp only [Int.reduceToNat] at ho9;rw [← Ny273.out] at ho9));have n0_ := Aside0.mk (Kd.R_lower ho9 (below_size (bl_)));have n1_ := Aside0.mk (below_step (bl_) hb);clear HB;have HO275 := n0_;have HB := n1_;clear n0_ n1_;clear hb ho9;obtain ⟨Ao10,co10,eo10⟩ := Kd.R_slice HO275.out;subst eo10;have p276 : 0 ≤ ((ji5) : Int) := of_decide_eq_true q5_;have q276 : (ji5) < (y273.length : Int) := of_decide_eq_true q5_;obtain ⟨ad276,e276,hx276_0⟩ := Kd.at_string (Kd.R_reads' HO275.out).2.2 (ji5) p276 q276;cases e276;replace p276 := eq_true p276;replace q276 := eq_true q276))
      go_ret
      exact ⟨by first|rfl|(simp [errW_none,errW_some] <;> rfl)|(simp only [← hji5];first|rfl|(simp [errW_none,errW_some] <;> rfl))|(simp [*,errW_none,errW_some] <;> rfl),bl_⟩
     ·rw [if_neg c7] at H
      exact absurd H (by simp)
    ·rw [if_neg c6] at H
     exact absurd H (by simp)
   ·replace c4 := Bool.eq_false_iff.mpr c4
    subst c4
    have H1 : ((some (([(48 + (Int.tmod a0 10)) % 256] : List Int) : List Int)).bind fun y277=>(if a0 ≥ 10 then ((some (([48 + (((Int.tdiv a0 10) % 256) % 10)] : List Int) : List Int)).bind fun y280=>(if (strOfNums y280).size + (strOfNums y277).size ≤ 9223372036854775807 then (if a0 ≥ 100 then ((some (([(48 + ((Int.tdiv a0 100) % 256)) % 256] : List Int) : List Int)).bind fun y283=>(if (strOfNums y283).size + ((strOfNums y280) ++ (strOfNums y277)).size ≤ 9223372036854775807 then (some ((strOfNums y283) ++ ((strOfNums y280) ++ (strOfNums y277)))) else (none))) else (some ((strOfNums y280) ++ (strOfNums y277)))) else (none))) else (if a0 ≥ 100 then ((some (([(48 + ((Int.tdiv a0 100) % 256)) % 256] : List Int) : List Int)).bind fun y286=>(if (strOfNums y286).size + (strOfNums y277).size ≤ 9223372036854775807 then (some ((strOfNums y286) ++ (strOfNums y277))) else (none))) else (some (strOfNums y277))))) = some r := by rw [if_neg (show ¬ (false = true) by decide)] at H;exact H
    clear H
    have H := H1
    clear H1
    obtain ⟨y277,hy277⟩ : ∃ y_ : List Int,y_ = (([(48 + (Int.tmod a0 10)) % 256] : List Int)) := ⟨_,rfl⟩
    replace H : (if a0 ≥ 10 then ((some (([48 + (((Int.tdiv a0 10) % 256) % 10)] : List Int) : List Int)).bind fun y280=>(if (strOfNums y280).size + (strOfNums y277).size ≤ 9223372036854775807 then (if a0 ≥ 100 then ((some (([(48 + ((Int.tdiv a0 100) % 256)) % 256] : List Int) : List Int)).bind fun y283=>(if (strOfNums y283).size + ((strOfNums y280) ++ (strOfNums y277)).size ≤ 9223372036854775807 then (some ((strOfNums y283) ++ ((strOfNums y280) ++ (strOfNums y277)))) else (none))) else (some ((strOfNums y280) ++ (strOfNums y277)))) else (none))) else (if a0 ≥ 100 then ((some (([(48 + ((Int.tdiv a0 100) % 256)) % 256] : List Int) : List Int)).bind fun y286=>(if (strOfNums y286).size + (strOfNums y277).size ≤ 9223372036854775807 then (some ((strOfNums y286) ++ (strOfNums y277))) else (none))) else (some (strOfNums y277)))) = some r := by first|(rw [hy277];with_reducible exact H)|(have H2_ := (Option.bind_some _ _).symm.trans H;rw [hy277];with_reducible exact H2_)|(have H2_ := (Option.bind_some _ _).symm.trans H;with_reducible exact H2_)|with_reducible exact H|(rw [hy277];exact H)|exact H
    have Ny277 := Aside0.mk hy277
    clear hy277
    by_cases c11 : a0 ≥ 10
    ·rw [if_pos c11] at H
     have c11b0 : decide (10 ≤ a0) = true := decide_eq_true c11
     clear c11
     obtain ⟨y280,hy280⟩ : ∃ y_ : List Int,y_ = (([48 + (((Int.tdiv a0 10) % 256) % 10)] : List Int)) := ⟨_,rfl⟩
     replace H : (if (strOfNums y280).size + (strOfNums y277).size ≤ 9223372036854775807 then (if a0 ≥ 100 then ((some (([(48 + ((Int.tdiv a0 100) % 256)) % 256] : List Int) : List Int)).bind fun y283=>(if (strOfNums y283).size + ((strOfNums y280) ++ (strOfNums y277)).size ≤ 9223372036854775807 then (some ((strOfNums y283) ++ ((strOfNums y280) ++ (strOfNums y277)))) else (none))) else (some ((strOfNums y280) ++ (strOfNums y277)))) else (none)) = some r := by first|(rw [hy280];with_reducible exact H)|(have H2_ := (Option.bind_some _ _).symm.trans H;rw [hy280];with_reducible exact H2_)|(have H2_ := (Option.bind_some _ _).symm.trans H;with_reducible exact H2_)|with_reducible exact H|(rw [hy280];exact H)|exact H
     have Ny280 := Aside0.mk hy280
     clear hy280
     by_cases c12 : (strOfNums y280).size + (strOfNums y277).size ≤ 9223372036854775807
     ·rw [if_pos c12] at H
      have c12b0 := eq_true c12
      have c12b1 : decide ((strOfNums y280).size + (strOfNums y277).size ≤ 9223372036854775807) = true := decide_eq_true c12
      try have c12b2 : (9223372036854775807 < (strOfNums y280).size + (strOfNums y277).size) = False := eq_false (Nat.not_lt.2 c12)
      by_cases c13 : a0 ≥ 100
      ·rw [if_pos c13] at H
       have c13b0 : decide (100 ≤ a0) = true := decide_eq_true c13
       clear c13
       obtain ⟨y283,hy283⟩ : ∃ y_ : List Int,y_ = (([(48 + ((Int.tdiv a0 100) % 256)) % 256] : List Int)) := ⟨_,rfl⟩
       replace H : (if (strOfNums y283).size + ((strOfNums y280) ++ (strOfNums y277)).size ≤ 9223372036854775807 then (some ((strOfNums y283) ++ ((strOfNums y280) ++ (strOfNums y277)))) else (none)) = some r := by first|(rw [hy283];with_reducible exact H)|(have H2_ := (Option.bind_some _ _).symm.trans H;rw [hy283];with_reducible exact H2_)|(have H2_ := (Option.bind_some _ _).symm.trans H;with_reducible exact H2_)|with_reducible exact H|(rw [hy283];exact H)|exact H
       have Ny283 := Aside0.mk hy283
       clear hy283
       by_cases c14 : (strOfNums y283).size + ((strOfNums y280) ++ (strOfNums y277)).size ≤ 9223372036854775807
       ·rw [if_pos c14] at H
        have c14b0 := eq_true c14
        have c14b1 : decide ((strOfNums y283).size + ((strOfNums y280) ++ (strOfNums y277)).size ≤ 9223372036854775807) = true := decide_eq_true c14
        try have c14b2 : (9223372036854775807 < (strOfNums y283).size + ((strOfNums y280) ++ (strOfNums y277)).size) = False := eq_false (Nat.not_lt.2 c14)
        obtain rfl := Option.some.inj H
        go_wp2_with (first|((with_reducible refine gate_dst (N := 18) rfl ?_);refine Kd.R_lit (Kd.int .u8) _ 5 ?hg (N := 18) ?hd (xs := ([(48 + (Int.tmod a0 10)) % 256] : List Int)) (inner := [.int .u8 ((48 + (Int.tmod a0 10)) % 256)]) (ok := fun _=>True) (okp := fun _=>True) ?hr ?hp (fun _ hk=>hk) trivial (Below.refl _ _) (Nat.le_refl _) (by simp) ?_;(case hd=>rfl);(case hg=>rfl);(case hr=>first|(go_simp;done)|(go_simp;rfl)|(go_simp;simp [my_u8w];done));(case hp=>exact (Reps.one (show Kd.M (Kd.int .u8) _ _ _ ((48 + (Int.tmod a0 10)) % 256) [.int .u8 ((48 + (Int.tmod a0 10)) % 256)] from rfl) (Reps.none _ _)));intro v278 w15 ho16 hb hg_ hnew_;clear hg_ hnew_;(first|rw [← Ny277.out] at ho16|(simp only [Int.reduceToNat] at ho16;rw [← Ny277.out] at ho16));have n0_ := Aside0.mk (Kd.R_lower ho16 (below_size (bl_)));have n1_ := Aside0.mk (below_step (bl_) hb);clear HB;have HO279 := n0_;have HB := n1_;clear n0_ n1_;clear hb ho16;have hcv17 := own_string (P := Tryd.prog) Tryd.underlying23 Tryd.underlying5 Tryd.underlying9 (Kd.own_of_R HO279.out))|((with_reducible refine gate_dst (N := 26) rfl ?_);refine Kd.R_lit (Kd.int .u8) _ 5 ?hg (N := 26) ?hd (xs := ([48 + (((Int.tdiv a0 10) % 256) % 10)] : List Int)) (inner := [.int .u8 (48 + (((Int.tdiv a0 10) % 256) % 10))]) (ok := fun _=>True) (okp := fun _=>True) ?hr ?hp (fun _ hk=>hk) trivial (Below.refl _ _) (Nat.le_refl _) (by simp) ?_;(case hd=>rfl);(case hg=>rfl);(case hr=>first|(go_simp;done)|(go_simp;rfl)|(go_simp;simp [my_u8w];done));(case hp=>exact (Reps.one (show Kd.M (Kd.int .u8) _ _ _ (48 + (((Int.tdiv a0 10) % 256) % 10)) [.int .u8 (48 + (((Int.tdiv a0 10) % 256) % 10))] from rfl) (Reps.none _ _)));intro v281 w18 ho19 hb hg_ hnew_;clear hg_ hnew_;(first|rw [← Ny280.out] at ho19|(simp only [Int.reduceToNat] at ho19;rw [← Ny280.out] at ho19));have n0_ := Aside0.mk (Kd.R_elder' q27_ (Kd.R_base ho19) hb);have n1_ := Aside0.mk (Kd.R_lower (Kd.R_new' ho19 (Kd.R_lt q27_)) (below_size (bl_)));have n2_ := Aside0.mk (below_step (bl_) hb);clear HO279;clear HB;have HO279 := n0_;have HO282 := n1_;have HB := n2_;clear n0_ n1_ n2_;clear hb ho19;have hcv20 := own_string (P := Tryd.prog) Tryd.underlying23 Tryd.underlying5 Tryd.underlying9 (Kd.own_of_R HO282.out))|((with_reducible refine gate_dst (N := 35) rfl ?_);refine Kd.R_lit (Kd.int .u8) _ 5 ?hg (N := 35) ?hd (xs := ([(48 + ((Int.tdiv a0 100) % 256)) % 256] : List Int)) (inner := [.int .u8 ((48 + ((Int.tdiv a0 100) % 256)) % 256)]) (ok := fun _=>True) (okp := fun _=>True) ?hr ?hp (fun _ hk=>hk) trivial (Below.refl _ _) (Nat.le_refl _) (by simp) ?_;(case hd=>rfl);(case hg=>rfl);(case hr=>first|(go_simp;done)|(go_simp;rfl)|(go_simp;simp [my_u8w];done));(case hp=>exact (Reps.one (show Kd.M (Kd.int .u8) _ _ _ ((48 + ((Int.tdiv a0 100) % 256)) % 256) [.int .u8 ((48 + ((Int.tdiv a0 100) % 256)) % 256)] from rfl) (Reps.none _ _)));intro v284 w21 ho22 hb hg_ hnew_;clear hg_ hnew_;(first|rw [← Ny283.out] at ho22|(simp only [Int.reduceToNat] at ho22;rw [← Ny283.out] at ho22));have n0_ := Aside0.mk (Kd.R_elder' q27_ (Kd.R_base ho22) hb);have n1_ := Aside0.mk (Kd.R_elder' (by (with_reducible repeat (first|apply Kd.R_alloc|apply Kd.R_drewN|apply Kd.R_drew));exact HO282.out) (Kd.R_base ho22) hb);have n2_ := Aside0.mk (Kd.R_lower (Kd.R_new' (Kd.R_new' ho22 (Kd.R_lt q27_)) (Kd.R_lt (by (with_reducible repeat (first|apply Kd.R_alloc|apply Kd.R_drewN|apply Kd.R_drew));exact HO282.out))) (below_size (bl_)));have n3_ := Aside0.mk (below_step (bl_) hb);clear HO279;clear HO282;clear HB;have HO279 := n0_;have HO282 := n1_;have HO285 := n2_;have HB := n3_;clear n0_ n1_ n2_ n3_;clear hb ho22;have hcv23 := own_string (P := Tryd.prog) Tryd.underlying23 Tryd.underlying5 Tryd.underlying9 (Kd.own_of_R HO285.out)))
        go_ret
        exact ⟨q9_,bl_⟩
       ·rw [if_neg c14] at H
        exact absurd H (by simp)
      ·rw [if_neg c13] at H
       have c13b0 : decide (100 ≤ a0) = false := decide_eq_false c13
       clear c13
       obtain rfl := Option.some.inj H
       go_wp2_with (first|((with_reducible refine gate_dst (N := 18) rfl ?_);refine Kd.R_lit (Kd.int .u8) _ 5 ?hg (N := 18) ?hd (xs := ([(48 + (Int.tmod a0 10)) % 256] : List Int)) (inner := [.int .u8 ((48 + (Int.tmod a0 10)) % 256)]) (ok := fun _=>True) (okp := fun _=>True) ?hr ?hp (fun _ hk=>hk) trivial (Below.refl _ _) (Nat.le_refl _) (by simp) ?_;(case hd=>rfl);(case hg=>rfl);(case hr=>first|(go_simp;done)|(go_simp;rfl)|(go_simp;simp [my_u8w];done));(case hp=>exact (Reps.one (show Kd.M (Kd.int .u8) _ _ _ ((48 + (Int.tmod a0 10)) % 256) [.int .u8 ((48 + (Int.tmod a0 10)) % 256)] from rfl) (Reps.none _ _)));intro v278 w24 ho25 hb hg_ hnew_;clear hg_ hnew_;(first|rw [← Ny277.out] at ho25|(simp only [Int.reduceToNat] at ho25;rw [← Ny277.out] at ho25));have n0_ := Aside0.mk (Kd.R_lower ho25 (below_size (bl_)));have n1_ := Aside0.mk (below_step (bl_) hb);clear HB;have HO279 := n0_;have HB := n1_;clear n0_ n1_;clear hb ho25;have hcv26 := own_string (P := Tryd.prog) Tryd.underlying23 Tryd.underlying5 Tryd.underlying9 (Kd.own_of_R HO279.out))|((with_reducible refine gate_dst (N := 26) rfl ?_);refine Kd.R_lit (Kd.int .u8) _ 5 ?hg (N := 26) ?hd (xs := ([48 + (((Int.tdiv a0 10) % 256) % 10)] : List Int)) (inner := [.int .u8 (48 + (((Int.tdiv a0 10) % 256) % 10))]) (ok := fun _=>True) (okp := fun _=>True) ?hr ?hp (fun _ hk=>hk) trivial (Below.refl _ _) (Nat.le_refl _) (by simp) ?_;(case hd=>rfl);(case hg=>rfl);(case hr=>first|(go_simp;done)|(go_simp;rfl)|(go_simp;simp [my_u8w];done));(case hp=>exact (Reps.one (show Kd.M (Kd.int .u8) _ _ _ (48 + (((Int.tdiv a0 10) % 256) % 10)) [.int .u8 (48 + (((Int.tdiv a0 10) % 256) % 10))] from rfl) (Reps.none _ _)));intro v281 w27 ho28 hb hg_ hnew_;clear hg_ hnew_;(first|rw [← Ny280.out] at ho28|(simp only [Int.reduceToNat] at ho28;rw [← Ny280.out] at ho28));have n0_ := Aside0.mk (Kd.R_elder' q27_ (Kd.R_base ho28) hb);have n1_ := Aside0.mk (Kd.R_lower (Kd.R_new' ho28 (Kd.R_lt q27_)) (below_size (bl_)));have n2_ := Aside0.mk (below_step (bl_) hb);clear HO279;clear HB;have HO279 := n0_;have HO282 := n1_;have HB := n2_;clear n0_ n1_ n2_;clear hb ho28;have hcv29 := own_string (P := Tryd.prog) Tryd.underlying23 Tryd.underlying5 Tryd.underlying9 (Kd.own_of_R HO282.out)))
       go_ret
       exact ⟨q9_,bl_⟩
     ·rw [if_neg c12] at H
      exact absurd H (by simp)
    ·rw [if_neg c11] at H
     have c11b0 : decide (10 ≤ a0) = false := decide_eq_false c11
     clear c11
     by_cases c30 : a0 ≥ 100
     ·rw [if_pos c30] at H
      have c30b0 : decide (100 ≤ a0) = true := decide_eq_true c30
      clear c30
      obtain ⟨y286,hy286⟩ : ∃ y_ : List Int,y_ = (([(48 + ((Int.tdiv a0 100) % 256)) % 256] : List Int)) := ⟨_,rfl⟩
      replace H : (if (strOfNums y286).size + (strOfNums y277).size ≤ 9223372036854775807 then (some ((strOfNums y286) ++ (strOfNums y277))) else (none)) = some r := by first|(rw [hy286];with_reducible exact H)|(have H2_ := (Option.bind_some _ _).symm.trans H;rw [hy286];with_reducible exact H2_)|(have H2_ := (Option.bind_some _ _).symm.trans H;with_reducible exact H2_)|with_reducible exact H|(rw [hy286];exact H)|exact H
      have Ny286 := Aside0.mk hy286
      clear hy286
      by_cases c31 : (strOfNums y286).size + (strOfNums y277).size ≤ 9223372036854775807
      ·rw [if_pos c31] at H
       have c31b0 := eq_true c31
       have c31b1 : decide ((strOfNums y286).size + (strOfNums y277).size ≤ 9223372036854775807) = true := decide_eq_true c31
       try have c31b2 : (9223372036854775807 < (strOfNums y286).size + (strOfNums y277).size) = False := eq_false (Nat.not_lt.2 c31)
       obtain rfl := Option.some.inj H
       go_wp2_with (first|((with_reducible refine gate_dst (N := 18) rfl ?_);refine Kd.R_lit (Kd.int .u8) _ 5 ?hg (N := 18) ?hd (xs := ([(48 + (Int.tmod a0 10)) % 256] : List Int)) (inner := [.int .u8 ((48 + (Int.tmod a0 10)) % 256)]) (ok := fun _=>True) (okp := fun _=>True) ?hr ?hp (fun _ hk=>hk) trivial (Below.refl _ _) (Nat.le_refl _) (by simp) ?_;(case hd=>rfl);(case hg=>rfl);(case hr=>first|(go_simp;done)|(go_simp;rfl)|(go_simp;simp [my_u8w];done));(case hp=>exact (Reps.one (show Kd.M (Kd.int .u8) _ _ _ ((48 + (Int.tmod a0 10)) % 256) [.int .u8 ((48 + (Int.tmod a0 10)) % 256)] from rfl) (Reps.none _ _)));intro v278 w32 ho33 hb hg_ hnew_;clear hg_ hnew_;(first|rw [← Ny277.out] at ho33|(simp only [Int.reduceToNat] at ho33;rw [← Ny277.out] at ho33));have n0_ := Aside0.mk (Kd.R_lower ho33 (below_size (bl_)));have n1_ := Aside0.mk (below_step (bl_) hb);clear HB;have HO279 := n0_;have HB := n1_;clear n0_ n1_;clear hb ho33;have hcv34 := own_string (P := Tryd.prog) Tryd.underlying23 Tryd.underlying5 Tryd.underlying9 (Kd.own_of_R HO279.out))|((with_reducible refine gate_dst (N := 35) rfl ?_);refine Kd.R_lit (Kd.int .u8) _ 5 ?hg (N := 35) ?hd (xs := ([(48 + ((Int.tdiv a0 100) % 256)) % 256] : List Int)) (inner := [.int .u8 ((48 + ((Int.tdiv a0 100) % 256)) % 256)]) (ok := fun _=>True) (okp := fun _=>True) ?hr ?hp (fun _ hk=>hk) trivial (Below.refl _ _) (Nat.le_refl _) (by simp) ?_;(case hd=>rfl);(case hg=>rfl);(case hr=>first|(go_simp;done)|(go_simp;rfl)|(go_simp;simp [my_u8w];done));(case hp=>exact (Reps.one (show Kd.M (Kd.int .u8) _ _ _ ((48 + ((Int.tdiv a0 100) % 256)) % 256) [.int .u8 ((48 + ((Int.tdiv a0 100) % 256)) % 256)] from rfl) (Reps.none _ _)));intro v287 w35 ho36 hb hg_ hnew_;clear hg_ hnew_;(first|rw [← Ny286.out] at ho36|(simp only [Int.reduceToNat] at ho36;rw [← Ny286.out] at ho36));have n0_ := Aside0.mk (Kd.R_elder' q27_ (Kd.R_base ho36) hb);have n1_ := Aside0.mk (Kd.R_lower (Kd.R_new' ho36 (Kd.R_lt q27_)) (below_size (bl_)));have n2_ := Aside0.mk (below_step (bl_) hb);clear HO279;clear HB;have HO279 := n0_;have HO288 := n1_;have HB := n2_;clear n0_ n1_ n2_;clear hb ho36;have hcv37 := own_string (P := Tryd.prog) Tryd.underlying23 Tryd.underlying5 Tryd.underlying9 (Kd.own_of_R HO288.out)))
       go_ret
       exact ⟨q9_,bl_⟩
      ·rw [if_neg c31] at H
       exact absurd H (by simp)
     ·rw [if_neg c30] at H
      have c30b0 : decide (100 ≤ a0) = false := decide_eq_false c30
      clear c30
      obtain rfl := Option.some.inj H
      go_wp2_with (first|((with_reducible refine gate_dst (N := 18) rfl ?_);refine Kd.R_lit (Kd.int .u8) _ 5 ?hg (N := 18) ?hd (xs := ([(48 + (Int.tmod a0 10)) % 256] : List Int)) (inner := [.int .u8 ((48 + (Int.tmod a0 10)) % 256)]) (ok := fun _=>True) (okp := fun _=>True) ?hr ?hp (fun _ hk=>hk) trivial (Below.refl _ _) (Nat.le_refl _) (by simp) ?_;(case hd=>rfl);(case hg=>rfl);(case hr=>first|(go_simp;done)|(go_simp;rfl)|(go_simp;simp [my_u8w];done));(case hp=>exact (Reps.one (show Kd.M (Kd.int .u8) _ _ _ ((48 + (Int.tmod a0 10)) % 256) [.int .u8 ((48 + (Int.tmod a0 10)) % 256)] from rfl) (Reps.none _ _)));intro v278 w38 ho39 hb hg_ hnew_;clear hg_ hnew_;(first|rw [← Ny277.out] at ho39|(simp only [Int.reduceToNat] at ho39;rw [← Ny277.out] at ho39));have n0_ := Aside0.mk (Kd.R_lower ho39 (below_size (bl_)));have n1_ := Aside0.mk (below_step (bl_) hb);clear HB;have HO279 := n0_;have HB := n1_;clear n0_ n1_;clear hb ho39;have hcv40 := own_string (P := Tryd.prog) Tryd.underlying23 Tryd.underlying5 Tryd.underlying9 (Kd.own_of_R HO279.out)))
      go_ret
      exact ⟨q9_,bl_⟩

end Go.Proofs.YtbedpnklnamnhaaDoor.PF

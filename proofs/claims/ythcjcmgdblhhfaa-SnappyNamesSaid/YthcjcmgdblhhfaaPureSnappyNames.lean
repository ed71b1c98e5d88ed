import Derived.Test.YthcjcmgdblhhfaaPVx19
import Derived.Test.YthcjcmgdblhhfaaSpecVg
namespace Go.Proofs.Ythcjcmgdblhhfaa.Pure
open Go.RowKit Go.Proofs.Ythcjcmgdblhhfaa.PV Go.Proofs.Ythcjcmgdblhhfaa.SpecVa Go.Proofs.Ythcjcmgdblhhfaa.SpecVd Go.Proofs.Ythcjcmgdblhhfaa.SpecVe Go.Proofs.Ythcjcmgdblhhfaa.SpecVg Go.Proofs.YthcjcmgdblhhfaaW.PrintWords Go.Proofs.YthcjcmgdblhhfaaW.PrintLast
set_option linter.unusedVariables false
def L1 : List S24 := [(⟨(⟨#[]⟩ : ByteArray), 9, (⟨#[]⟩ : ByteArray), 8⟩ : S24), (⟨(⟨#[0]⟩ : ByteArray), 0, (⟨#[]⟩ : ByteArray), 0⟩ : S24), (⟨(⟨#[0]⟩ : ByteArray), (-1), (⟨#[]⟩ : ByteArray), 40⟩ : S24), (⟨(⟨#[1]⟩ : ByteArray), 9, (⟨#[]⟩ : ByteArray), 4⟩ : S24), (⟨(⟨#[10]⟩ : ByteArray), 9, (⟨#[]⟩ : ByteArray), 40⟩ : S24), (⟨(⟨#[128, 128, 128, 128, 16]⟩ : ByteArray), 1099511627776, (⟨#[]⟩ : ByteArray), 4⟩ : S24), (⟨(⟨#[3, 8, 97, 98]⟩ : ByteArray), 9, (⟨#[]⟩ : ByteArray), 8⟩ : S24), (⟨(⟨#[2, 8, 97, 98, 99]⟩ : ByteArray), 9, (⟨#[]⟩ : ByteArray), 4⟩ : S24), (⟨(⟨#[4, 8, 97, 98, 99]⟩ : ByteArray), 9, (⟨#[]⟩ : ByteArray), 4⟩ : S24), (⟨(⟨#[5, 1, 1]⟩ : ByteArray), 9, (⟨#[]⟩ : ByteArray), 4⟩ : S24), (⟨(⟨#[5, 1]⟩ : ByteArray), 9, (⟨#[]⟩ : ByteArray), 8⟩ : S24), (⟨(⟨#[5, 0, 97, 1, 0]⟩ : ByteArray), 9, (⟨#[]⟩ : ByteArray), 4⟩ : S24), (⟨(⟨#[5, 0, 97, 1, 2]⟩ : ByteArray), 9, (⟨#[]⟩ : ByteArray), 4⟩ : S24), (⟨(⟨#[5, 0, 97, 1, 1]⟩ : ByteArray), 9, (⟨#[97, 97, 97, 97, 97]⟩ : ByteArray), 0⟩ : S24), (⟨(⟨#[2, 0, 97, 2, 1, 0]⟩ : ByteArray), 9, (⟨#[97, 97]⟩ : ByteArray), 0⟩ : S24), (⟨(⟨#[2, 0, 97, 3, 1, 0, 0, 0]⟩ : ByteArray), 9, (⟨#[97, 97]⟩ : ByteArray), 0⟩ : S24), (⟨(⟨#[2, 0, 97, 3, 1, 0, 0]⟩ : ByteArray), 9, (⟨#[]⟩ : ByteArray), 8⟩ : S24), (⟨(⟨#[2, 0, 97, 3, 1, 0, 0, 1]⟩ : ByteArray), 9, (⟨#[]⟩ : ByteArray), 4⟩ : S24), (⟨(⟨#[2, 240, 1, 97, 98]⟩ : ByteArray), 9, (⟨#[97, 98]⟩ : ByteArray), 0⟩ : S24), (⟨(⟨#[2, 244, 1, 0, 97, 98]⟩ : ByteArray), 9, (⟨#[97, 98]⟩ : ByteArray), 0⟩ : S24), (⟨(⟨#[2, 248, 1, 0, 0, 97, 98]⟩ : ByteArray), 9, (⟨#[97, 98]⟩ : ByteArray), 0⟩ : S24), (⟨(⟨#[2, 252, 1, 0, 0, 0, 97, 98]⟩ : ByteArray), 9, (⟨#[97, 98]⟩ : ByteArray), 0⟩ : S24), (⟨(⟨#[2, 252, 1, 0, 0, 1, 97, 98]⟩ : ByteArray), 9, (⟨#[]⟩ : ByteArray), 8⟩ : S24), (⟨(⟨#[2, 252, 255, 255, 255, 255, 97, 98]⟩ : ByteArray), 9, (⟨#[]⟩ : ByteArray), 8⟩ : S24), (⟨(⟨#[130, 0, 4, 97, 98]⟩ : ByteArray), 9, (⟨#[97, 98]⟩ : ByteArray), 0⟩ : S24)]
def L2 : List S35 := [(⟨false,(⟨#[]⟩ : ByteArray),0,0⟩ : S35),(⟨false,(⟨#[97]⟩ : ByteArray),1,0⟩ : S35),(⟨false,(⟨#[97]⟩ : ByteArray),0,1⟩ : S35),(⟨true,(⟨#[]⟩ : ByteArray),1,0⟩ : S35),(⟨true,(⟨#[]⟩ : ByteArray),0,1⟩ : S35),(⟨true,(⟨#[]⟩ : ByteArray),1,65⟩ : S35),(⟨true,(⟨#[]⟩ : ByteArray),4294967296,1⟩ : S35),(⟨true,(⟨#[97]⟩ : ByteArray),1,1⟩ : S35),(⟨true,(⟨#[]⟩ : ByteArray),6,1⟩ : S35),(⟨true,(⟨#[]⟩ : ByteArray),(-1),4⟩ : S35)]
theorem all1 : ∀ x ∈ L1, snappy_Decode.f 60 x.f0 x.f1 = some (x.f2, x.f3) := by decide +kernel
theorem all2 : ∀ x ∈ L2, (exq [(⟨false, ⟨#[97,98,99,100,101]⟩, 0, 0⟩ : S35), ⟨x.f0, x.f1, x.f2, x.f3⟩] ⟨#[]⟩ 99).2 = 4 := by decide +kernel
theorem len1 : L1.length = 25 := rfl
theorem len2 : L2.length = 10 := rfl
theorem loop2 : ∀ (d i : Nat), i + d = 10 → Ev (fun k => batonlaw03_SnappyNames.l1 k L2 10 (i : Int)) true := by
  intro d
  induction d with
  | zero =>
    intro i hi
    refine ev_step (fun k => rfl) ?_
    simp only [batonlaw03_SnappyNames.l1]
    have e1 := expand_ev [(⟨false, ⟨#[97,98,99,100,101]⟩, 0, 0⟩ : S35)] 4 (by decide)
    have e2 := expand_ev ([] : List S35) (-1) (by decide)
    have e3 := match_out (⟨#[97,98,99]⟩ : ByteArray) 3 (Or.inr (by decide))
    exact ev_neg (by omega) (ev_bind e1 (ev_bind e2 (ev_bind e3 (ev_pos (by decide +kernel) (ev_pos (by decide +kernel) (ev_pos rfl (ev_now _)))))))
  | succ d ih =>
    intro i hi
    refine ev_step (fun k => rfl) ?_
    simp only [batonlaw03_SnappyNames.l1]
    have hl := len2
    have e : rd_T35 L2 (i : Int) = L2[i]'(by omega) := by unfold rd_T35; rw [Int.toNat_natCast]; simp [List.getD, List.getElem?_eq_getElem (show i < L2.length by omega)]
    rw [e, wr (n := (i : Int) + 1) (by omega) (by omega)]
    refine ev_pos (by omega) (ev_pos (by omega) (ev_pos (by omega) (ev_bind (expand_ev _ 99 (by simp)) (ev_pos ?_ (ih (i + 1) (by omega))))))
    exact all2 _ (List.getElem_mem _)
theorem loop1 (h : ∀ i : Int, 25 ≤ i → Ev (fun k => batonlaw03_SnappyNames.l0 k L1 25 i) true) : ∀ (d i : Nat), i + d = 25 → Ev (fun k => batonlaw03_SnappyNames.l0 k L1 25 (i : Int)) true := by
  intro d
  induction d with
  | zero => intro i hi; exact h i (by omega)
  | succ d ih =>
    intro i hi
    refine ev_step (fun k => rfl) ?_
    simp only [batonlaw03_SnappyNames.l0]
    have hl := len1
    have e : rd_T24 L1 (i : Int) = L1[i]'(by omega) := by unfold rd_T24; rw [Int.toNat_natCast]; simp [List.getD, List.getElem?_eq_getElem (show i < L1.length by omega)]
    rw [e, wr (n := (i : Int) + 1) (by omega) (by omega)]
    have hd := Ev.of (snappy_Decode.mono (L1[i]'(by omega)).f0 (L1[i]'(by omega)).f1) (all1 (L1[i]'(by omega)) (List.getElem_mem _))
    exact ev_pos (by omega) (ev_pos (by omega) (ev_pos (by omega) (ev_bind hd (ev_pos rfl (ev_pos rfl (ih (i + 1) (by omega)))))))
theorem t1 : (vb 8 ((65536 : Nat) : Int)).length = 3 := by decide +kernel
theorem t2 (Z : ByteArray) : exq [] Z 65536 = (Z, 0) := rfl
theorem t3 (Z : ByteArray) (hz : Z.size = 65536) : (wl ⟨false, Z, 0, 0⟩).length = 3 + Z.size := by
      unfold wl
      simp only [Bool.false_eq_true, if_false]
      rw [if_neg (by omega), if_neg (by omega), List.length_append, bytesOf_length, List.length_cons, numb_len]
theorem t4 (Z : ByteArray) (hz : Z.size = 65536) (hw : (wl ⟨false, Z, 0, 0⟩).length = 3 + Z.size) (hb : bytesOf (blk [(⟨false, Z, 0, 0⟩ : S35)]).1 = vb 8 ((Z.size : Nat) : Int) ++ [(⟨false, Z, 0, 0⟩ : S35)].flatMap wl) : (blk [(⟨false, Z, 0, 0⟩ : S35)]).1.size = 65542 := by
    rw [← bytesOf_length, hb, List.length_append, List.flatMap_cons, List.flatMap_nil, List.append_nil, hw, hz, t1]
theorem long_part (i : Int) (hi : 25 ≤ i) : Ev (fun k => batonlaw03_SnappyNames.l0 k L1 25 i) true := by
  refine ev_step (fun k => rfl) ?_
  simp only [batonlaw03_SnappyNames.l0]
  refine ev_neg (by omega) (ev_pos (by decide) (ev_some ?_))
  have hx : (strOfNums (List.replicate 65537 0)).size = 65537 := by rw [str_size, List.length_replicate]
  generalize strOfNums (List.replicate 65537 0) = X at hx ⊢
  have hz : (X.extract 1 X.size).size = 65536 := by rw [ByteArray.size_extract, hx]; omega
  generalize X.extract 1 X.size = Z at hz ⊢
  have pack : Ev (fun k => snappy_Pack.f k X) (([] : List S35), 40) := by
    unfold snappy_Pack.f
    exact ev_pos (by omega) (ev_now _)
  have enc : Ev (fun k => snappy_Encode.f k X) ((⟨#[]⟩ : ByteArray), 40) := by
    unfold snappy_Encode.f
    exact ev_bind pack (ev_neg (by decide) (ev_now _))
  have zm : mayB ⟨false, Z, 0, 0⟩ = true := (mayB_iff _ _ _ _).2 (Or.inr ⟨rfl, by omega, by omega, rfl, rfl⟩)
  have zb : badB ⟨false, Z, 0, 0⟩ ⟨#[]⟩ = false := by unfold badB; rw [zm]; rfl
  have ze : ext ⟨false, Z, 0, 0⟩ ⟨#[]⟩ = Z := ByteArray.empty_append
  have step : ∀ L : List S35, exq (⟨false, Z, 0, 0⟩ :: L) ⟨#[]⟩ 65536 = exq L Z 65536 := by
    intro L
    rw [exq, if_neg (by rw [zb]; simp), if_neg, ze]
    show ¬ ((Z.size : Int) > wrap64 (65536 - ((0 : Nat) : Int)))
    rw [wr (by omega) (by omega)]
    omega
  have w1 := swrite_ev [(⟨false, X, 0, 0⟩ : S35)] (by simp)
  have b1 : blk [(⟨false, X, 0, 0⟩ : S35)] = (⟨#[]⟩, 4) := by
    have e : exq [(⟨false, X, 0, 0⟩ : S35)] ⟨#[]⟩ 65536 = (⟨#[]⟩, 4) := by
      rw [exq, if_pos]
      unfold badB
      have : mayB ⟨false, X, 0, 0⟩ = false := by
        rw [← Bool.not_eq_true, mayB_iff]
        rintro (⟨h, _⟩ | ⟨_, _, h, _⟩)
        · cases h
        · omega
      rw [this]
      rfl
    unfold blk
    rw [e]
    rfl
  have w2 := swrite_ev [(⟨false, Z, 0, 0⟩ : S35), ⟨false, ⟨#[97]⟩, 0, 0⟩] (by simp)
  have b2 : (blk [(⟨false, Z, 0, 0⟩ : S35), ⟨false, ⟨#[97]⟩, 0, 0⟩]).2 = 40 := by
    have e : exq [(⟨false, Z, 0, 0⟩ : S35), ⟨false, ⟨#[97]⟩, 0, 0⟩] ⟨#[]⟩ 65536 = (⟨#[]⟩, 40) := by
      rw [step, exq, if_neg, if_pos]
      · show (1 : Int) > wrap64 (65536 - (Z.size : Int))
        rw [hz, wr (by omega) (by omega)]
        decide
      · unfold badB
        rw [show mayB ⟨false, ⟨#[97]⟩, 0, 0⟩ = true from rfl]
        simp
    unfold blk
    rw [e]
    rfl
  have w3 := swrite_ev [(⟨false, Z, 0, 0⟩ : S35)] (by simp)
  have e3 : exq [(⟨false, Z, 0, 0⟩ : S35)] ⟨#[]⟩ 65536 = (Z, 0) := (step []).trans (t2 Z)
  obtain ⟨_, _, b3, hb⟩ := blk_bytes _ Z e3
  have hs := t4 Z hz (t3 Z hz) hb
  have d3 := decode_ev (blk [(⟨false, Z, 0, 0⟩ : S35)]).1 65536 (by omega) (by omega)
  rw [dec_blk _ Z e3 65536 (by omega)] at d3
  rw [b1] at w1
  refine ev_bind enc (ev_bind pack (ev_bind w1 (ev_pos (by omega) (ev_bind w2 (ev_bind w3 (ev_bind d3 (ev_pos rfl (ev_pos rfl (ev_pos rfl (ev_pos b2 (ev_pos b3 (ev_pos rfl (ev_pos rfl (ev_step (fun k => rfl) ?_))))))))))))))
  simp only [batonlaw03_SnappyNames.j1]
  refine ev_neg (by rw [hs]; decide) (ev_some ?_)
  exact loop2 10 0 (by omega)
theorem SnappyNames : batonlaw03_SnappyNames.Pure := by
  refine Ev.rounds (g := fun k => batonlaw03_SnappyNames.f k) ?_
  unfold batonlaw03_SnappyNames.f
  exact ev_bind awake_ev (ev_pos rfl (ev_some (loop1 long_part 25 0 (by omega))))
end Go.Proofs.Ythcjcmgdblhhfaa.Pure

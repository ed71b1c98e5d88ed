import Derived.Test.YthcjcmgdblhhfaaPVx34
import Derived.Test.YthcjcmgdblhhfaaSpecVf
import Derived.Test.YthcjcmgdblhhfaaSpecVg
namespace Go.Proofs.Ythcjcmgdblhhfaa.Pure
open Go.RowKit Go.Proofs.Ythcjcmgdblhhfaa.PV Go.Proofs.Ythcjcmgdblhhfaa.SpecVa Go.Proofs.Ythcjcmgdblhhfaa.SpecVd Go.Proofs.Ythcjcmgdblhhfaa.SpecVe Go.Proofs.Ythcjcmgdblhhfaa.SpecVf Go.Proofs.Ythcjcmgdblhhfaa.SpecVg Go.Proofs.YthcjcmgdblhhfaaW.PrintWords Go.Proofs.YthcjcmgdblhhfaaW.PrintLast
set_option linter.unusedVariables false
theorem join (s : ByteArray) (p q : Nat) (h : p ≤ q) : s.extract 0 p ++ s.extract p q = s.extract 0 q := (ByteArray.extract_eq_extract_append_extract p (by omega) h).symm
theorem one_same (s : ByteArray) (a b : Nat) (ha : a < s.size) (hb : b < s.size) (h : bt s (a : Int) = bt s (b : Int)) : s.extract a (a + 1) = s.extract b (b + 1) := by
  apply bytes_inj
  rw [bytes_one s a ha, bytes_one s b hb, h]
theorem cp_own (s : ByteArray) (off : Nat) (ho : 1 ≤ off) : ∀ (n p : Nat), off ≤ p → p + n ≤ s.size → (∀ j, j < n → bt s ((p - off + j : Nat) : Int) = bt s ((p + j : Nat) : Int)) → cp (s.extract 0 p) off n = s.extract 0 (p + n)
  | 0, p, h1, h2, h3 => rfl
  | n + 1, p, h1, h2, h3 => by
    have hz : (s.extract 0 p).size = p := by rw [ByteArray.size_extract]; omega
    unfold cp
    rw [hz, ByteArray.extract_extract, show 0 + (p - off) = p - off from by omega, show min (0 + (p - off + 1)) p = p - off + 1 from by omega, one_same s (p - off) p (by omega) (by omega) (h3 0 (by omega)), join s p (p + 1) (by omega), show p + (n + 1) = p + 1 + n from by omega]
    refine cp_own s off ho n (p + 1) (by omega) (by omega) (fun j hj => ?_)
    have := h3 (j + 1) (by omega)
    rw [show p - off + (j + 1) = p + 1 - off + j from by omega, show p + (j + 1) = p + 1 + j from by omega] at this
    exact this
theorem exq_good (s : ByteArray) (hs : s.size ≤ 65536) : ∀ (l : List S35) (p : Nat) (b : Bool), PGood s p b l → p ≤ s.size → exq l (s.extract 0 p) 65536 = (s, 0)
  | [], p, b, g, hp => by
    have g' : p = s.size := g
    rw [g', ByteArray.extract_zero_size]
    rfl
  | x :: l, p, b, g, hp => by
    have hz : (s.extract 0 p).size = p := by rw [ByteArray.size_extract]; omega
    obtain ⟨c, t, o, n⟩ := x
    unfold exq
    rw [hz, wr (n := 65536 - (p : Int)) (by omega) (by omega)]
    rcases g with ⟨g0, g1, g2, g3, g4, g5, g6, g7⟩ | ⟨g1, g2, g3, g4, g5, g6, g7⟩
    · simp only at g1 g2 g3 g4 g5 g6 g7
      subst g1 g5 g6
      have hm : mayB ⟨false, t, 0, 0⟩ = true := (mayB_iff _ _ _ _).2 (Or.inr ⟨rfl, g2, by omega, rfl, rfl⟩)
      rw [if_neg (by unfold badB; rw [hm]; simp), if_neg (by unfold addN; simp; omega)]
      have e : ext ⟨false, t, 0, 0⟩ (s.extract 0 p) = s.extract 0 (p + t.size) := by
        show s.extract 0 p ++ t = _
        rw [← join s p (p + t.size) (by omega), ← g4]
      rw [e]
      exact exq_good s hs l (p + t.size) false g7 g3
    · simp only at g1 g2 g4 g5
      subst g1 g2 g4 g5
      have hal := mat_al s p (by omega)
      have hsz := mat_size s p hp
      have h64 := mat_le s p
      have hm : mayB ⟨true, ⟨#[]⟩, ((mat s p).1 : Int), ((mat s p).2 : Int)⟩ = true := (mayB_iff _ _ _ _).2 (Or.inl ⟨rfl, rfl, by omega, by omega, by omega, by omega⟩)
      rw [if_neg (by unfold badB; rw [hm, hz]; simp; omega), if_neg (by unfold addN; simp; omega)]
      have e : ext ⟨true, ⟨#[]⟩, ((mat s p).1 : Int), ((mat s p).2 : Int)⟩ (s.extract 0 p) = s.extract 0 (p + (mat s p).2) := by
        show cp (s.extract 0 p ++ ByteArray.empty) ((mat s p).1 : Int).toNat ((mat s p).2 : Int).toNat = _
        rw [ByteArray.append_empty, Int.toNat_natCast, Int.toNat_natCast]
        refine cp_own s _ hal.1 _ p hal.2.2.1 hsz (fun j hj => ?_)
        have := run_at (eqAt s (p - (mat s p).1) p) 64 0 j (by omega) (by show j < al s _ _; omega)
        unfold eqAt at this
        simp only [Bool.and_eq_true, beq_iff_eq] at this
        exact this.2
      rw [e]
      exact exq_good s hs l (p + (mat s p).2) true g7 hsz
theorem good_len (s : ByteArray) (hs : s.size ≤ 65536) : ∀ (l : List S35) (p : Nat) (b : Bool), PGood s p b l → p ≤ s.size → 60 * (l.flatMap wl).length ≤ 61 * (s.size - p) + (if b = true then 180 else 121)
  | [], p, b, g, hp => by simp
  | x :: l, p, b, g, hp => by
    obtain ⟨c, t, o, n⟩ := x
    rw [List.flatMap_cons, List.length_append]
    rcases g with ⟨g0, g1, g2, g3, g4, g5, g6, g7⟩ | ⟨g1, g2, g3, g4, g5, g6, g7⟩
    · simp only at g1 g2 g3 g4 g5 g6 g7
      subst g0 g1 g5 g6
      have ih := good_len s hs l (p + t.size) false g7 g3
      have hw : (wl ⟨false, t, 0, 0⟩).length = (if t.size ≤ 60 then 1 else if t.size ≤ 256 then 2 else 3) + t.size := by
        unfold wl
        simp only [Bool.false_eq_true, if_false]
        rw [List.length_append, bytesOf_length]
        congr 1
        split
        · rfl
        · split <;> simp [numb_len]
      rw [hw]
      simp only [Bool.false_eq_true, if_false, if_true] at ih ⊢
      split
      · omega
      · split <;> omega
    · simp only at g1 g2 g4 g5
      subst g1 g2 g4 g5
      have hal := mat_al s p (by omega)
      have hsz := mat_size s p hp
      have ih := good_len s hs l (p + (mat s p).2) true g7 hsz
      have hw : (wl ⟨true, ⟨#[]⟩, ((mat s p).1 : Int), ((mat s p).2 : Int)⟩).length ≤ 3 := by
        unfold wl
        simp only [if_true]
        split
        · simp
        · rw [if_pos (by omega)]
          simp [numb_len]
      simp only [if_true] at ih
      split <;> omega
theorem vb3 (n : Int) (h : n < 2097152) : (vb 8 n).length ≤ 3 := by
  unfold vb
  split
  · simp
  · unfold vb
    split
    · simp
    · unfold vb
      rw [if_pos (by omega)]
      simp
theorem SnappyBack : batonlaw03_SnappyBack.Pure := by
  intro s hs
  refine Ev.rounds (g := fun k => batonlaw03_SnappyBack.f k s) ?_
  unfold batonlaw03_SnappyBack.f
  by_cases h : (s.size : Int) > 3000
  · exact ev_pos h (ev_step (fun k => rfl) (by simp only [batonlaw03_SnappyBack.j0]; exact ev_pos (by simp) (ev_bind awake_ev (ev_now _))))
  · refine ev_neg h (ev_bind awake_ev (ev_step (fun k => rfl) ?_))
    simp only [batonlaw03_SnappyBack.j0]
    have hE : exq (parts s) ⟨#[]⟩ 65536 = (s, 0) := by
      have := exq_good s (by omega) (parts s) 0 true (good_parts s) (by omega)
      rwa [ByteArray.extract_same] at this
    obtain ⟨_, _, h2, hb⟩ := blk_bytes (parts s) s hE
    have hlen := good_len s (by omega) (parts s) 0 true (good_parts s) (by omega)
    have hv := vb3 (s.size : Int) (by omega)
    have hz : (blk (parts s)).1.size = (vb 8 (s.size : Int)).length + ((parts s).flatMap wl).length := by rw [← bytesOf_length, hb, List.length_append]
    simp only [if_true] at hlen
    have d1 := decode_ev (blk (parts s)).1 (s.size : Int) (by omega) (by omega)
    rw [dec_blk (parts s) s hE _ (Int.le_refl _)] at d1
    have d2 := size_ev (blk (parts s)).1 (by omega)
    rw [sz_blk (parts s) s hE] at d2
    have d3 := decode_ev (blk (parts s)).1 ((s.size : Int) - 1) (by omega) (by omega)
    have e3 : dec (blk (parts s)).1 ((s.size : Int) - 1) = (⟨#[]⟩, 40) := by
      unfold dec
      rw [sz_blk (parts s) s hE]
      simp only [if_true]
      by_cases h0 : (s.size : Int) - 1 < 0
      · rw [if_pos h0]
      · rw [if_neg h0, if_pos (by omega)]
    rw [e3] at d3
    rw [wr (n := (s.size : Int) - 1) (by omega) (by omega), wr (n := 3 + (s.size : Int)) (by omega) (by omega), wr (n := (s.size : Int) / 30) (by omega) (by omega), wr (n := 3 + (s.size : Int) + (s.size : Int) / 30) (by omega) (by omega), wr (n := 3 + (s.size : Int) + (s.size : Int) / 30 + 4) (by omega) (by omega), show IntKind.u64.wrap (s.size : Int) = (s.size : Int) from u64w _ (by omega) (by omega)]
    refine ev_neg (by simp) (ev_bind (encode_ev s (by omega)) (ev_bind d1 (ev_bind d2 (ev_bind d3 (ev_pos h2 (ev_pos rfl (ev_pos rfl (ev_pos rfl (ev_pos rfl (ev_pos rfl (ev_pure ?_)))))))))))
    rw [decide_eq_true]
    omega
end Go.Proofs.Ythcjcmgdblhhfaa.Pure

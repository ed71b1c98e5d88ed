import Derived.Test.YthcjcmgdblhhfaaPVx36
import Derived.Test.YthcjcmgdblhhfaaSpecVe
namespace Go.Proofs.Ythcjcmgdblhhfaa.Pure
open Go.RowKit Go.Proofs.Ythcjcmgdblhhfaa.PV Go.Proofs.Ythcjcmgdblhhfaa.SpecVa Go.Proofs.Ythcjcmgdblhhfaa.SpecVd Go.Proofs.Ythcjcmgdblhhfaa.SpecVe Go.Proofs.YthcjcmgdblhhfaaW.PrintWords Go.Proofs.YthcjcmgdblhhfaaW.PrintLast
set_option linter.unusedVariables false
theorem cut_ext (s : ByteArray) (c i j : Nat) (h : j ≤ c) : (s.extract 0 c).extract i j = s.extract i j := by
  rw [ByteArray.extract_extract, Nat.zero_add, Nat.zero_add, Nat.min_eq_left h]
section
variable (s : ByteArray) (c : Nat)
theorem cut_size (hc : c ≤ s.size) : (s.extract 0 c).size = c := by rw [ByteArray.size_extract]; omega
theorem cut_bt (hc : c ≤ s.size) (j : Nat) (h : j < c) : bt (s.extract 0 c) (j : Int) = bt s (j : Int) := by
  have := bt_ext s (a := 0) (b := c) (i := j) hc (by omega)
  rwa [Nat.zero_add] at this
/-- What the head's element is: the text's, if it is whole there. -/
theorem cut_elem (hc : c ≤ s.size) (p : Nat) (hp : p < c) : elem (s.extract 0 c) p = (match elem s p with
    | some (x, q) => if q ≤ c then some (x, q) else none
    | none => none) := by
  have hz := cut_size s c hc
  have hb := cut_bt s c hc p hp
  have hx := cut_ext s c
  unfold elem
  rw [hz, hb]
  generalize bt s (p : Int) = t
  have simple : ∀ (k : Nat) (g : ByteArray → S35) (hg : p + 1 + k ≤ c → g (s.extract 0 c) = g s), (if p + 1 + k ≤ c then some (g (s.extract 0 c), p + 1 + k) else none) = (match (if p + 1 + k ≤ s.size then some (g s, p + 1 + k) else none) with
      | some (x, q) => if q ≤ c then some (x, q) else none
      | none => none) := by
    intro k g hg
    by_cases h1 : p + 1 + k ≤ c
    · rw [if_pos h1, if_pos (by omega : p + 1 + k ≤ s.size), hg h1]
      simp only
      rw [if_pos h1]
    · rw [if_neg h1]
      by_cases h2 : p + 1 + k ≤ s.size
      · rw [if_pos h2]
        simp only
        rw [if_neg h1]
      · rw [if_neg h2]
  by_cases h1 : t % 4 = 1
  · rw [if_pos h1, if_pos h1]
    exact simple 1 (fun z => ⟨true, ⟨#[]⟩, t / 32 * 256 + lv (bytesOf (z.extract (p + 1) (p + 1 + 1))), 4 + t / 4 % 8⟩) (fun h => by rw [hx _ _ h])
  · rw [if_neg h1, if_neg h1]
    by_cases h2 : t % 4 = 2
    · rw [if_pos h2, if_pos h2]
      exact simple 2 (fun z => ⟨true, ⟨#[]⟩, lv (bytesOf (z.extract (p + 1) (p + 1 + 2))), t / 4 + 1⟩) (fun h => by rw [hx _ _ h])
    · rw [if_neg h2, if_neg h2]
      by_cases h3 : t % 4 = 3
      · rw [if_pos h3, if_pos h3]
        exact simple 4 (fun z => ⟨true, ⟨#[]⟩, lv (bytesOf (z.extract (p + 1) (p + 1 + 4))), t / 4 + 1⟩) (fun h => by rw [hx _ _ h])
      · rw [if_neg h3, if_neg h3]
        by_cases h4 : t / 4 ≥ 60
        · rw [if_pos h4, if_pos h4]
          generalize (t / 4 - 59).toNat = d
          by_cases g1 : p + 1 + d ≤ c
          · rw [if_pos g1, if_pos (by omega : p + 1 + d ≤ s.size), hx _ _ g1]
            generalize (lv (bytesOf (s.extract (p + 1) (p + 1 + d)))).toNat + 1 = m
            by_cases g2 : p + 1 + d + m ≤ c
            · rw [if_pos g2, if_pos (by omega : p + 1 + d + m ≤ s.size), hx _ _ g2]
              simp only
              rw [if_pos g2]
            · rw [if_neg g2]
              by_cases g3 : p + 1 + d + m ≤ s.size
              · rw [if_pos g3]
                simp only
                rw [if_neg g2]
              · rw [if_neg g3]
          · rw [if_neg g1]
            by_cases g2 : p + 1 + d ≤ s.size
            · rw [if_pos g2]
              generalize (lv (bytesOf (s.extract (p + 1) (p + 1 + d)))).toNat + 1 = m
              by_cases g3 : p + 1 + d + m ≤ s.size
              · rw [if_pos g3]
                simp only
                rw [if_neg (by omega)]
              · rw [if_neg g3]
            · rw [if_neg g2]
        · rw [if_neg h4, if_neg h4]
          exact simple (t / 4 + 1).toNat (fun z => ⟨false, z.extract (p + 1) (p + 1 + (t / 4 + 1).toNat), 0, 0⟩) (fun h => by rw [hx _ _ h])
theorem cut_step (hc : c ≤ s.size) (f i : Nat) (acc : Int) (hi : i < c) :
    uv s (f + 1) i acc = (if i = 9 ∧ bt s (i : Int) > 1 then (0, 0, 4) else if bt s (i : Int) < 128 then (acc + bt s (i : Int) * 2 ^ (7 * i), (i : Int) + 1, 0) else uv s f (i + 1) (acc + (bt s (i : Int) - 128) * 2 ^ (7 * i))) ∧
    uv (s.extract 0 c) (f + 1) i acc = (if i = 9 ∧ bt s (i : Int) > 1 then (0, 0, 4) else if bt s (i : Int) < 128 then (acc + bt s (i : Int) * 2 ^ (7 * i), (i : Int) + 1, 0) else uv (s.extract 0 c) f (i + 1) (acc + (bt s (i : Int) - 128) * 2 ^ (7 * i))) := by
  refine ⟨by rw [uv, if_neg (by omega)], ?_⟩
  rw [uv, cut_size s c hc, cut_bt s c hc i hi, if_neg (by omega)]
theorem cut_uv (hc : c ≤ s.size) : ∀ (f i : Nat) (acc : Int), i ≤ c → (uv s f i acc).2.2 = 0 → uv (s.extract 0 c) f i acc = uv s f i acc ∧ (uv s f i acc).2.1 ≤ (c : Int) ∨ uv (s.extract 0 c) f i acc = (0, 0, 8)
  | 0, i, acc, hi, h => by simp [uv] at h
  | f + 1, i, acc, hi, h => by
    by_cases h1 : i = c
    · right
      rw [uv, cut_size s c hc, if_pos h1]
    · obtain ⟨e1, e2⟩ := cut_step s c hc f i acc (by omega)
      rw [e1] at h ⊢
      rw [e2]
      by_cases g1 : i = 9 ∧ bt s (i : Int) > 1
      · rw [if_pos g1] at h
        simp at h
      · rw [if_neg g1] at h
        rw [if_neg g1, if_neg g1]
        by_cases g2 : bt s (i : Int) < 128
        · rw [if_pos g2, if_pos g2]
          exact Or.inl ⟨rfl, by simp only; omega⟩
        · rw [if_neg g2] at h
          rw [if_neg g2, if_neg g2]
          exact cut_uv hc f (i + 1) _ (by omega) h
theorem long_uv (hc : c ≤ s.size) : ∀ (f i : Nat) (acc : Int), i ≤ c → (uv (s.extract 0 c) f i acc).2.2 = 0 → uv s f i acc = uv (s.extract 0 c) f i acc
  | 0, i, acc, hi, h => by simp [uv] at h
  | f + 1, i, acc, hi, h => by
    by_cases h1 : i = c
    · rw [uv, cut_size s c hc, if_pos h1] at h
      simp at h
    · obtain ⟨e1, e2⟩ := cut_step s c hc f i acc (by omega)
      rw [e2] at h ⊢
      rw [e1]
      by_cases g1 : i = 9 ∧ bt s (i : Int) > 1
      · rw [if_pos g1] at h
        simp at h
      · rw [if_neg g1] at h
        rw [if_neg g1, if_neg g1]
        by_cases g2 : bt s (i : Int) < 128
        · rw [if_pos g2, if_pos g2]
        · rw [if_neg g2] at h
          rw [if_neg g2, if_neg g2]
          exact long_uv hc f (i + 1) _ (by omega) h
theorem cut_dcl (hc : c ≤ s.size) (size : Int) (T : ByteArray) (hlt : c < s.size) : ∀ (f g p : Nat) (X : ByteArray), p ≤ c → c < g + p → dcl s size f p X = (T, 0) → (dcl (s.extract 0 c) size g p X).2 = 8 ∨ (dcl (s.extract 0 c) size g p X).2 = 4
  | 0, g, p, X, hp, hg, h => by simp [dcl] at h
  | f + 1, 0, p, X, hp, hg, h => by omega
  | f + 1, g + 1, p, X, hp, hg, h => by
    have hz := cut_size s c hc
    unfold dcl at h ⊢
    rw [hz]
    rw [if_pos (by omega)] at h
    have hok := elem_ok s p (by omega)
    by_cases h1 : p < c
    · rw [if_pos h1, cut_elem s c hc p h1]
      generalize he : elem s p = r at h hok
      match r, h, hok with
      | none, h, _ => simp at h
      | some (x, q), h, hok =>
        obtain ⟨_, g1, g2, g3⟩ := hok x q rfl
        simp only at h ⊢
        by_cases h2 : q ≤ c
        · rw [if_pos h2]
          simp only
          split at h
          · simp at h
          · rename_i hs
            rw [if_neg hs]
            exact cut_dcl hc size T hlt f g q (ext x X) h2 (by omega) h
        · rw [if_neg h2]
          exact Or.inl rfl
    · rw [if_neg h1]
      generalize he : elem s p = r at h hok
      match r, h, hok with
      | none, h, _ => simp at h
      | some (x, q), h, hok =>
        obtain ⟨_, g1, g2, g3⟩ := hok x q rfl
        simp only at h
        split at h
        · simp at h
        · rename_i hs
          have := step_size x X size s.size g3 hs
          rw [if_pos (by omega)]
          exact Or.inr rfl
theorem long_dcl (hc : c ≤ s.size) (size : Int) (T : ByteArray) (hlt : c < s.size) : ∀ (f g p : Nat) (X : ByteArray), p ≤ c → s.size < g + p → dcl (s.extract 0 c) size f p X = (T, 0) → (dcl s size g p X).2 = 8 ∨ (dcl s size g p X).2 = 4
  | 0, g, p, X, hp, hg, h => by simp [dcl] at h
  | f + 1, 0, p, X, hp, hg, h => by omega
  | f + 1, g + 1, p, X, hp, hg, h => by
    have hz := cut_size s c hc
    unfold dcl at h ⊢
    rw [hz] at h
    rw [if_pos (by omega : p < s.size)]
    have hok := elem_ok s p (by omega)
    by_cases h1 : p < c
    · rw [if_pos h1, cut_elem s c hc p h1] at h
      generalize he : elem s p = r at h hok
      match r, h, hok with
      | none, h, _ => simp at h
      | some (x, q), h, hok =>
        simp only at h ⊢
        by_cases h2 : q ≤ c
        · rw [if_pos h2] at h
          obtain ⟨_, g1, g2, g3⟩ := hok x q rfl
          simp only at h
          split at h
          · simp at h
          · rename_i hs
            rw [if_neg hs]
            exact long_dcl hc size T hlt f g q (ext x X) h2 (by omega) h
        · rw [if_neg h2] at h
          simp at h
    · rw [if_neg h1] at h
      generalize he : elem s p = r at hok
      match r, hok with
      | none, _ => exact Or.inl rfl
      | some (x, q), hok =>
        obtain ⟨_, g1, g2, g3⟩ := hok x q rfl
        simp only
        split at h
        · simp at h
        · rename_i hs
          by_cases hb : stepBad x X size = true
          · rw [if_pos hb]
            exact Or.inr rfl
          · have := step_size x X size s.size g3 hb
            omega
end
/-- A block that decodes: its length is told, and what stands behind it is its text. -/
theorem dec_ok (s : ByteArray) (most : Int) (h : (dec s most).2 = 0) : (ln s).2.2 = 0 ∧ (sz s) = ((ln s).1, 0) ∧ 0 ≤ most ∧ (ln s).1 ≤ most ∧ (ln s).1 < 4294967296 ∧ ∃ q : Nat, (ln s).2.1 = (q : Int) ∧ 0 < q ∧ q ≤ s.size ∧ ∃ T, dcl s (ln s).1 (s.size + 1) q ⟨#[]⟩ = (T, 0) := by
  unfold dec at h
  split at h
  · rename_i h1
    obtain ⟨g1, g2, g3⟩ := sz_ok s h1
    obtain ⟨q, e, q0, q1⟩ := ln_at s g1
    split at h
    · simp at h
    · split at h
      · simp at h
      · rename_i h2 h3
        rw [e, Int.toNat_natCast, g3] at h
        exact ⟨g1, Prod.ext g3 h1, by omega, by omega, g2, q, e, q0, q1, _, Prod.ext rfl h⟩
  · rename_i h1
    exact absurd h h1
theorem dec_bad (s : ByteArray) (most : Int) (h : (dec s most).2 ≠ 0) : (dec s most).1 = ⟨#[]⟩ := by
  have hd : ∀ (f p : Nat) (X : ByteArray) (size : Int), (dcl s size f p X).2 ≠ 0 → (dcl s size f p X).1 = ⟨#[]⟩ := by
    intro f
    induction f with
    | zero => intro p X size h; rfl
    | succ f ih =>
      intro p X size h
      unfold dcl at h ⊢
      split
      · rename_i h1
        rw [if_pos h1] at h
        generalize elem s p = r at h
        match r, h with
        | none, h => rfl
        | some (x, q), h =>
          simp only at h ⊢
          split
          · rfl
          · rename_i h2
            rw [if_neg h2] at h
            exact ih q _ size h
      · rename_i h1
        rw [if_neg h1] at h
        split
        · rfl
        · rename_i h2
          rw [if_neg h2] at h
          simp at h
  unfold dec at h ⊢
  split
  · rename_i h1
    rw [if_pos h1] at h
    split
    · rfl
    · rename_i h2
      rw [if_neg h2] at h
      split
      · rfl
      · rename_i h3
        rw [if_neg h3] at h
        exact hd _ _ _ _ h
  · rfl
theorem dec_go (s : ByteArray) (most n : Int) (q : Nat) (hl : ln s = (n, (q : Int), 0)) (h0 : 0 ≤ most) (h1 : n ≤ most) (h2 : n < 4294967296) : dec s most = dcl s n (s.size + 1) q ⟨#[]⟩ := by
  have hs : sz s = (n, 0) := by
    unfold sz
    rw [hl]
    simp only [if_true]
    rw [if_neg (by omega)]
  unfold dec
  rw [hs, hl]
  simp only [if_true]
  rw [if_neg (by omega), if_neg (by omega), Int.toNat_natCast]
theorem dec_cut (s : ByteArray) (c : Nat) (hc : c < s.size) (most : Int) (h : (dec s most).2 = 0) : (dec (s.extract 0 c) most).2 = 8 ∨ (dec (s.extract 0 c) most).2 = 4 := by
  obtain ⟨g1, g2, g3, g4, g5, q, e, q0, q1, T, hT⟩ := dec_ok s most h
  have hz := cut_size s c (by omega)
  rcases cut_uv s c (by omega) 10 0 0 (by omega) g1 with ⟨h1, h2⟩ | h1
  · have hq : (ln s).2.1 ≤ (c : Int) := h2
    have hl : ln (s.extract 0 c) = ((ln s).1, (q : Int), 0) := by
      show uv (s.extract 0 c) 10 0 0 = _
      rw [h1]
      exact Prod.ext rfl (Prod.ext e g1)
    rw [dec_go _ most _ q hl g3 g4 g5]
    exact cut_dcl s c (by omega) (ln s).1 T hc (s.size + 1) _ q ⟨#[]⟩ (by omega) (by omega) hT
  · left
    have hs : sz (s.extract 0 c) = (0, 8) := by
      unfold sz
      rw [show ln (s.extract 0 c) = (0, 0, 8) from h1]
      rfl
    unfold dec
    rw [hs]
    rfl
theorem dec_long (s : ByteArray) (c : Nat) (hc : c < s.size) (most : Int) (h : (dec (s.extract 0 c) most).2 = 0) : (dec s most).2 = 8 ∨ (dec s most).2 = 4 := by
  obtain ⟨g1, g2, g3, g4, g5, q, e, q0, q1, T, hT⟩ := dec_ok (s.extract 0 c) most h
  have hz := cut_size s c (by omega)
  have hl : ln s = ((ln (s.extract 0 c)).1, (q : Int), 0) := by
    show uv s 10 0 0 = _
    rw [long_uv s c (by omega) 10 0 0 (by omega) g1]
    exact Prod.ext rfl (Prod.ext e g1)
  rw [dec_go s most _ q hl g3 g4 g5]
  exact long_dcl s c (by omega) _ T hc _ (s.size + 1) q ⟨#[]⟩ (by omega) (by omega) hT
theorem SnappyCut : batonlaw03_SnappyCut.Pure := by
  intro s cut more hs hcut hmore
  refine Ev.rounds (g := fun k => batonlaw03_SnappyCut.f k s cut more) ?_
  unfold batonlaw03_SnappyCut.f
  by_cases h : (s.size : Int) > 3000
  · exact ev_pos h (ev_step (fun k => rfl) (by simp only [batonlaw03_SnappyCut.j0]; exact ev_pos (by simp) (ev_bind awake_ev (ev_now _))))
  · refine ev_neg h (ev_bind awake_ev (ev_step (fun k => rfl) ?_))
    simp only [batonlaw03_SnappyCut.j0]
    refine ev_neg (by simp) (ev_bind (decode_ev s 20000 (by omega) (by omega)) ?_)
    by_cases he : (dec s 20000).2 = 0
    · refine ev_pos he ?_
      obtain ⟨_, _, _, _, _, q, _, q0, q1, _, _⟩ := dec_ok s 20000 he
      rw [show IntKind.u64.wrap (s.size : Int) = (s.size : Int) from u64w _ (by omega) (by omega)]
      have hw : 0 ≤ IntKind.u64.wrap cut := by unfold IntKind.wrap; simp [IntKind.signed, IntKind.bits]; omega
      have hm : Int.tmod (IntKind.u64.wrap cut) (s.size : Int) = IntKind.u64.wrap cut % (s.size : Int) := Int.tmod_eq_emod_of_nonneg hw
      have hm0 := Int.emod_nonneg (IntKind.u64.wrap cut) (show (s.size : Int) ≠ 0 by omega)
      have hm1 := Int.emod_lt_of_pos (IntKind.u64.wrap cut) (show (0 : Int) < (s.size : Int) by omega)
      rw [hm]
      generalize IntKind.u64.wrap cut % (s.size : Int) = c at hm0 hm1
      rw [wr (n := c) (by omega) (by omega)]
      have d1 := decode_ev (s.extract 0 c.toNat) 20000 (by rw [ByteArray.size_extract]; omega) (by omega)
      have c1 := dec_cut s c.toNat (by omega) 20000 he
      have hz : (strOfNums [more]).size = 1 := str_size [more]
      have d2 := decode_ev (s ++ strOfNums [more]) 20000 (by rw [ByteArray.size_append]; omega) (by omega)
      have c2 := dec_long (s ++ strOfNums [more]) s.size (by rw [ByteArray.size_append]; omega) 20000 (by rw [ByteArray.extract_append_eq_left rfl]; exact he)
      refine ev_neg (by omega) (ev_pos (by omega) (ev_pos (by omega) (ev_bind d1 (ev_some (ev_pos (by omega) (ev_bind d2 ?_))))))
      rcases c1 with c1 | c1
      · refine ev_pos c1 ?_
        rcases c2 with c2 | c2
        · exact ev_pos c2 (ev_now _)
        · exact ev_neg (by omega) (ev_pure (by rw [c2]; rfl))
      · refine ev_neg (by omega) (ev_pos c1 ?_)
        rcases c2 with c2 | c2
        · exact ev_pos c2 (ev_now _)
        · exact ev_neg (by omega) (ev_pure (by rw [c2]; rfl))
    · exact ev_neg he (ev_pure (by rw [dec_bad s 20000 he, (nil_size _).2 rfl]; rfl))
end Go.Proofs.Ythcjcmgdblhhfaa.Pure

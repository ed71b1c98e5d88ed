/- Plain facts about a packed text: each part stands where it says, copies are the matches, no two literals stand side by side. No conditions. -/
import Derived.Test.YthcjcmgdblhhfaaSpecVd
namespace Go.Proofs.Ythcjcmgdblhhfaa.SpecVf
open Go.RowKit Go.Proofs.Ythcjcmgdblhhfaa.PV Go.Proofs.YthcjcmgdblhhfaaW.PrintWords Go.Proofs.YthcjcmgdblhhfaaW.PrintLast Go.Proofs.Ythcjcmgdblhhfaa.SpecVa Go.Proofs.Ythcjcmgdblhhfaa.SpecVd
set_option linter.unusedVariables false
set_option linter.unusedSimpArgs false
/-- Are these the parts from a place on? (b: may a literal come first?) -/
def PGood (s : ByteArray) : Nat → Bool → List S35 → Prop
  | p, _, [] => p = s.size
  | p, b, x :: l =>
    (b = true ∧ x.f0 = false ∧ 1 ≤ x.f1.size ∧ p + x.f1.size ≤ s.size ∧ x.f1 = s.extract p (p + x.f1.size) ∧ x.f2 = 0 ∧ x.f3 = 0 ∧ PGood s (p + x.f1.size) false l) ∨
    (x.f0 = true ∧ x.f1 = ⟨#[]⟩ ∧ 4 ≤ (mat s p).2 ∧ x.f2 = ((mat s p).1 : Int) ∧ x.f3 = ((mat s p).2 : Int) ∧ p < s.size ∧ PGood s (p + (mat s p).2) true l)
theorem good_pk (s : ByteArray) : ∀ (f a fr : Nat) (out : List S35), fr ≤ a → a ≤ s.size → s.size < f + a → ∃ l, pk m35 s f a fr out = out ++ l ∧ PGood s fr true l
  | 0, a, fr, out, h1, h2, h3 => by omega
  | f + 1, a, fr, out, h1, h2, h3 => by
    simp only [pk]
    have lit : ∀ b : Nat, fr < b → b ≤ s.size → (s.extract fr b).size = b - fr := fun b hb hs => by rw [ByteArray.size_extract]; omega
    by_cases ha : a < s.size
    · rw [if_pos ha]
      have hsz := mat_size s a h2
      by_cases h4 : 4 ≤ (mat s a).2
      · rw [if_pos h4]
        obtain ⟨l, e, hl⟩ := good_pk s f (a + (mat s a).2) (a + (mat s a).2) (out ++ litB m35 s fr a ++ [m35 true ⟨#[]⟩ (mat s a).1 (mat s a).2]) (Nat.le_refl _) hsz (by omega)
        refine ⟨litB m35 s fr a ++ m35 true ⟨#[]⟩ (mat s a).1 (mat s a).2 :: l, by rw [e]; simp, ?_⟩
        have hc : ∀ b, PGood s a b (m35 true ⟨#[]⟩ (mat s a).1 (mat s a).2 :: l) := fun b => Or.inr ⟨rfl, rfl, h4, rfl, rfl, ha, hl⟩
        unfold litB
        by_cases hf : fr < a
        · rw [if_pos hf]
          have hz := lit a hf h2
          refine Or.inl ⟨rfl, rfl, ?_, ?_, ?_, rfl, rfl, ?_⟩
          · show 1 ≤ (s.extract fr a).size; omega
          · show fr + (s.extract fr a).size ≤ _; omega
          · show s.extract fr a = s.extract fr (fr + (s.extract fr a).size); rw [hz]; congr 1; omega
          · show PGood s (fr + (s.extract fr a).size) false _
            rw [hz, show fr + (a - fr) = a from by omega]
            exact hc false
        · rw [if_neg hf]
          obtain rfl : fr = a := by omega
          exact hc true
      · rw [if_neg h4]
        exact good_pk s f (a + 1) fr out (by omega) (by omega) (by omega)
    · rw [if_neg ha]
      refine ⟨litB m35 s fr s.size, rfl, ?_⟩
      unfold litB
      by_cases hf : fr < s.size
      · rw [if_pos hf]
        have hz := lit s.size hf (Nat.le_refl _)
        refine Or.inl ⟨rfl, rfl, ?_, ?_, ?_, rfl, rfl, ?_⟩
        · show 1 ≤ (s.extract fr s.size).size; omega
        · show fr + (s.extract fr s.size).size ≤ _; omega
        · show s.extract fr s.size = s.extract fr (fr + (s.extract fr s.size).size); rw [hz]; congr 1; omega
        · show fr + (s.extract fr s.size).size = _; omega
      · rw [if_neg hf]
        show fr = s.size
        omega
theorem good_parts (s : ByteArray) : PGood s 0 true (parts s) := by
  obtain ⟨l, e, h⟩ := good_pk s (s.size + 1) 0 0 [] (Nat.le_refl _) (by omega) (by omega)
  unfold parts
  rw [e]
  exact h
theorem best_al (s : ByteArray) (p : Nat) : ∀ (d o : Nat) (m : Nat × Nat), (0 < m.2 → 1 ≤ m.1 ∧ m.1 ≤ 65535 ∧ m.1 ≤ p ∧ m.2 = al s (p - m.1) p) → 1 ≤ o → o + d ≤ min p 65535 + 1 →
    0 < (best s p o d m).2 → 1 ≤ (best s p o d m).1 ∧ (best s p o d m).1 ≤ 65535 ∧ (best s p o d m).1 ≤ p ∧ (best s p o d m).2 = al s (p - (best s p o d m).1) p
  | 0, o, m, h, _, _ => h
  | d + 1, o, m, h, h1, h2 => by
    unfold best
    refine best_al s p d (o + 1) _ ?_ (by omega) (by omega)
    split
    · intro _; exact ⟨h1, by simp only; omega, by simp only; omega, rfl⟩
    · exact h
theorem mat_al (s : ByteArray) (p : Nat) (h : 0 < (mat s p).2) : 1 ≤ (mat s p).1 ∧ (mat s p).1 ≤ 65535 ∧ (mat s p).1 ≤ p ∧ (mat s p).2 = al s (p - (mat s p).1) p := by
  unfold mat at h ⊢
  exact best_al s p (min p 65535) 1 (0, 0) (fun h => by simp at h) (by omega) (by omega) h
end Go.Proofs.Ythcjcmgdblhhfaa.SpecVf

import Derived.Test.YthcjcmgdblhhfaaPVx35
import Derived.Test.YthcjcmgdblhhfaaSpecVd
namespace Go.Proofs.Ythcjcmgdblhhfaa.Pure
open Go.RowKit Go.Proofs.Ythcjcmgdblhhfaa.PV Go.Proofs.Ythcjcmgdblhhfaa.SpecVa Go.Proofs.Ythcjcmgdblhhfaa.SpecVd Go.Proofs.YthcjcmgdblhhfaaW.PrintWords Go.Proofs.YthcjcmgdblhhfaaW.PrintLast
set_option linter.unusedVariables false
theorem runs_loop (X : ByteArray) (off n : Nat) (ho : 1 ≤ off) (hx : off ≤ X.size) (hX : X.size ≤ 2000) (hn : n ≤ 64) : ∀ (d i : Nat), i + d = X.size + n → X.size ≤ i →
    Ev (fun k => batonlaw03_SnappyRuns.l0 k (off : Int) (cp X off n) (i : Int)) true := by
  have hz := cp_size off ho n X hx
  intro d
  induction d with
  | zero =>
    intro i hi h1
    refine ev_step (fun k => rfl) ?_
    simp only [batonlaw03_SnappyRuns.l0]
    exact ev_neg (by omega) (ev_now _)
  | succ d ih =>
    intro i hi h1
    refine ev_step (fun k => rfl) ?_
    simp only [batonlaw03_SnappyRuns.l0]
    rw [wr (n := (i : Int) - off) (by omega) (by omega), wr (n := (i : Int) + 1) (by omega) (by omega)]
    refine ev_pos (by omega) (ev_pos (by omega) (ev_pos (by omega) (ev_pos (by omega) (ev_pos ?_ (ih (i + 1) (by omega) (by omega))))))
    rw [cp_bt off ho n X hx i h1 (by omega), show ((i : Int) - off) = ((i - off : Nat) : Int) from by omega]
theorem SnappyRuns : batonlaw03_SnappyRuns.Pure := by
  intro s off n hs _ _
  refine Ev.rounds (g := fun k => batonlaw03_SnappyRuns.f k s off n) ?_
  unfold batonlaw03_SnappyRuns.f
  by_cases h : (s.size : Int) > 2000
  · exact ev_pos h (ev_step (fun k => rfl) (by simp only [batonlaw03_SnappyRuns.j0]; exact ev_pos (by simp) (ev_bind awake_ev (ev_now _))))
  · refine ev_neg h (ev_bind awake_ev (ev_step (fun k => rfl) ?_))
    simp only [batonlaw03_SnappyRuns.j0]
    refine ev_neg (by simp) (ev_bind (expand_ev _ 65536 (by simp)) ?_)
    have bad : ∀ b : Bool, b = true → exq [(⟨false, s, 0, 0⟩ : S35), ⟨true, ⟨#[]⟩, off, n⟩] ⟨#[]⟩ 65536 = (⟨#[]⟩, 4) →
        Ev (fun k => batonlaw03_SnappyRuns.j1 k s off n (exq [(⟨false, s, 0, 0⟩ : S35), ⟨true, ⟨#[]⟩, off, n⟩] ⟨#[]⟩ 65536).1 (exq [(⟨false, s, 0, 0⟩ : S35), ⟨true, ⟨#[]⟩, off, n⟩] ⟨#[]⟩ 65536).2 b) true := by
      intro b hb e
      rw [e, hb]
      refine ev_step (fun k => rfl) ?_
      simp only [batonlaw03_SnappyRuns.j1]
      exact ev_pos (by simp) (ev_pos (by simp) (ev_pure (by rw [(nil_size _).2 rfl]; rfl)))
    by_cases h0 : s.size = 0
    · refine ev_pos ((nil_size s).2 h0) (bad true rfl ?_)
      unfold exq
      rw [if_pos]
      unfold badB mayB
      simp [h0]
    · refine ev_neg (fun e => h0 ((nil_size s).1 e)) ?_
      have hm : mayB ⟨false, s, 0, 0⟩ = true := (mayB_iff _ _ _ _).2 (Or.inr ⟨rfl, by omega, by omega, rfl, rfl⟩)
      have e1 : exq [(⟨false, s, 0, 0⟩ : S35), ⟨true, ⟨#[]⟩, off, n⟩] ⟨#[]⟩ 65536 = exq [(⟨true, ⟨#[]⟩, off, n⟩ : S35)] s 65536 := by
        rw [exq, if_neg, if_neg]
        · rw [show ext ⟨false, s, 0, 0⟩ ⟨#[]⟩ = s from ByteArray.empty_append]
        · show ¬ ((s.size : Int) > wrap64 (65536 - ((0 : Nat) : Int)))
          rw [wr (by omega) (by omega)]
          omega
        · unfold badB
          rw [hm]
          simp
      have hb2 : badB ⟨true, ⟨#[]⟩, off, n⟩ s = true ↔ ¬ (1 ≤ off ∧ off ≤ (s.size : Int) ∧ 1 ≤ n ∧ n ≤ 64) := by
        unfold badB mayB
        have hnil : (⟨#[]⟩ : ByteArray).size = 0 := rfl
        simp only [hnil]
        simp
        omega
      rw [e1] at bad ⊢
      have bad2 : ∀ b : Bool, b = true → ¬ (1 ≤ off ∧ off ≤ (s.size : Int) ∧ 1 ≤ n ∧ n ≤ 64) → _ := fun b hb hn => bad b hb (by
        rw [exq, if_pos (hb2.2 hn)])
      by_cases h1 : off < 1
      · exact ev_pos h1 (bad2 true rfl (by omega))
      · refine ev_neg h1 ?_
        by_cases h2 : off > (s.size : Int)
        · exact ev_pos h2 (bad2 true rfl (by omega))
        · refine ev_neg h2 ?_
          by_cases h3 : n < 1
          · exact ev_pos h3 (bad2 true rfl (by omega))
          · refine ev_neg h3 ?_
            by_cases h4 : n > 64
            · rw [decide_eq_true h4]
              exact bad2 true rfl (by omega)
            · rw [decide_eq_false h4]
              have e2 : exq [(⟨true, ⟨#[]⟩, off, n⟩ : S35)] s 65536 = (cp s off.toNat n.toNat, 0) := by
                rw [exq, if_neg (fun e => hb2.1 e (by omega)), if_neg]
                · show exq [] (cp (s ++ ByteArray.empty) off.toNat n.toNat) 65536 = _
                  rw [ByteArray.append_empty]
                  rfl
                · show ¬ (n > wrap64 (65536 - (s.size : Int)))
                  rw [wr (by omega) (by omega)]
                  omega
              rw [e2]
              have hz := cp_size off.toNat (by omega) n.toNat s (by omega)
              refine ev_step (fun k => rfl) ?_
              simp only [batonlaw03_SnappyRuns.j1]
              refine ev_neg (by simp) (ev_pos (by simp) (ev_pos ?_ (ev_pos (by omega) (ev_pos (by omega) (ev_step (fun k => rfl) ?_)))))
              · rw [wr (by omega) (by omega)]
                omega
              · simp only [batonlaw03_SnappyRuns.j2]
                rw [Int.toNat_natCast, cp_take]
                refine ev_neg (by simp) ?_
                have := runs_loop s off.toNat n.toNat (by omega) (by omega) (by omega) (by omega) n.toNat s.size rfl (Nat.le_refl _)
                rw [Int.toNat_of_nonneg (by omega : 0 ≤ off)] at this
                exact this
end Go.Proofs.Ythcjcmgdblhhfaa.Pure

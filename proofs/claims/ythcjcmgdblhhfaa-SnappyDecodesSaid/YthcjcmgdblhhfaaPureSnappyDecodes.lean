import Derived.Test.YthcjcmgdblhhfaaSpecSnappyDecodes
import Derived.Test.YthcjcmgdblhhfaaPVx44
namespace Go.Proofs.Ythcjcmgdblhhfaa.Pure
open Go.RowKit Go.Proofs.Ythcjcmgdblhhfaa.SpecSnappyDecodes Go.Proofs.Ythcjcmgdblhhfaa.PV Go.Proofs.YthcjcmgdblhhfaaW.PrintWords Go.Proofs.YthcjcmgdblhhfaaW.PrintLast
set_option linter.unusedVariables false
theorem prl_len (s : ByteArray) : ∀ (f p : Nat) (acc : List S35), acc.length ≤ p → p ≤ s.size → (prl s f p acc).1.length ≤ s.size
  | 0, p, acc, h1, h2 => by simp [prl]
  | f + 1, p, acc, h1, h2 => by
    unfold prl
    by_cases hp : p < s.size
    · rw [if_pos hp]
      have hok := elem_ok s p hp
      generalize elem s p = r at hok
      match r, hok with
      | none, _ => simp
      | some (x, q), hok =>
        obtain ⟨_, g1, g2, g3⟩ := hok x q rfl
        exact prl_len s f q (acc ++ [x]) (by simp; omega) g2
    · rw [if_neg hp]
      show acc.length ≤ s.size
      omega
theorem prt_len (s : ByteArray) : (prt s).1.length ≤ s.size := by
  unfold prt
  split
  · rename_i h
    obtain ⟨g1, g2, g3⟩ := sz_ok s h
    obtain ⟨q, e, q0, q1⟩ := ln_at s g1
    rw [e, Int.toNat_natCast]
    exact prl_len s _ q [] (by simp) q1
  · simp
theorem wipe (s : ByteArray) (x13 : Int) : ∀ (d i : Nat) (L : List S35), L.length ≤ 3000 → i + d = L.length → Ev (fun k => batonlaw03_SnappyDecodes.l0 k s (wrap64 (x13 + 1))) true → Ev (fun k => batonlaw03_SnappyDecodes.l1 k s x13 L (i : Int)) true := by
  intro d
  induction d with
  | zero =>
    intro i L hL hi h
    refine ev_step (fun k => rfl) ?_
    simp only [batonlaw03_SnappyDecodes.l1]
    exact ev_neg (by omega) h
  | succ d ih =>
    intro i L hL hi h
    refine ev_step (fun k => rfl) ?_
    simp only [batonlaw03_SnappyDecodes.l1]
    rw [wr (n := (i : Int) + 1) (by omega) (by omega)]
    exact ev_pos (by omega) (ev_pos (by omega) (ih (i + 1) _ (by rw [List.length_set]; exact hL) (by rw [List.length_set]; omega) h))
theorem rounds (s : ByteArray) (hs : s.size ≤ 3000) : ∀ (d : Nat) (i : Int), i + d = 2 → 0 ≤ i → Ev (fun k => batonlaw03_SnappyDecodes.l0 k s i) true := by
  intro d
  induction d with
  | zero =>
    intro i hi h0
    refine ev_step (fun k => rfl) ?_
    simp only [batonlaw03_SnappyDecodes.l0]
    exact ev_neg (by omega) (ev_bind awake_ev (ev_now _))
  | succ d ih =>
    intro i hi h0
    have hl := prt_len s
    refine ev_step (fun k => rfl) ?_
    simp only [batonlaw03_SnappyDecodes.l0]
    refine ev_pos (by omega) (ev_bind (parts_ev s (by omega)) (ev_bind (rparts_ev s (by omega)) (ev_pos rfl (ev_bind (same_ev (prt s).1 (by omega)) (ev_step (fun k => rfl) ?_)))))
    simp only [batonlaw03_SnappyDecodes.j3]
    refine ev_neg (by simp) (wipe s i (prt s).1.length 0 (prt s).1 (by omega) (by omega) ?_)
    rw [wr (by omega) (by omega)]
    exact ih (i + 1) (by omega) (by omega)
theorem SnappyDecodes : batonlaw03_SnappyDecodes.Pure := by
  intro s most hs hm
  refine Ev.rounds (g := fun k => batonlaw03_SnappyDecodes.f k s most) ?_
  unfold batonlaw03_SnappyDecodes.f
  have out : Ev (fun k => batonlaw03_SnappyDecodes.j0 k s most true) true := ev_step (fun k => rfl) (by simp only [batonlaw03_SnappyDecodes.j0]; exact ev_pos (by simp) (ev_bind awake_ev (ev_now _)))
  by_cases h : (s.size : Int) > 3000
  · exact ev_pos h out
  · refine ev_neg h ?_
    by_cases h2 : most > 20000
    · rw [decide_eq_true h2]
      exact out
    · rw [decide_eq_false h2]
      refine ev_step (fun k => rfl) ?_
      simp only [batonlaw03_SnappyDecodes.j0]
      refine ev_neg (by simp) (ev_bind (size_ev s (by omega)) (ev_bind (rsize_ev s (by omega)) (ev_bind (decode_ev s most (by omega) (by omega)) (ev_bind (rdecode_ev s most (by omega) (by omega)) (ev_pos rfl (ev_pos rfl (ev_pos rfl (ev_step (fun k => rfl) ?_))))))))
      simp only [batonlaw03_SnappyDecodes.j1]
      exact ev_neg (by simp) (rounds s (by omega) 2 0 (by omega) (by omega))
end Go.Proofs.Ythcjcmgdblhhfaa.Pure

/- Plain facts about the laws' own loops over the document's parts: how long they are, and the same parts as the program's. No conditions. -/
import Derived.Test.YthcjcmgdblhhfaaPVx20
import Derived.Test.YthcjcmgdblhhfaaPVx21
import Derived.Test.YthcjcmgdblhhfaaPVx28
import Derived.Test.YthcjcmgdblhhfaaSpecVb
namespace Go.Proofs.Ythcjcmgdblhhfaa.SpecVc
open Go.RowKit Go.Proofs.Ythcjcmgdblhhfaa.PV Go.Proofs.YthcjcmgdblhhfaaW.PrintWords Go.Proofs.YthcjcmgdblhhfaaW.PrintLast Go.Proofs.Ythcjcmgdblhhfaa.SpecVa Go.Proofs.Ythcjcmgdblhhfaa.SpecVb
set_option linter.unusedVariables false
set_option linter.unusedSimpArgs false
/-- A part of the document's, as the program's. -/
def p35 (x : S72) : S35 := ⟨x.f0, x.f1, x.f2, x.f3⟩
theorem p72_p35 (l : List S72) : (l.map p35).map p72 = l := by
  rw [List.map_map]
  exact List.map_id'' (fun x => rfl) l
theorem long_loop (l : List S72) (hl : l.length ≤ 140737488351232) : ∀ (d i : Nat) (n : Int), i + d = l.length → n ≤ 10100 → 70 * (i : Int) ≤ n →
    ∃ b, Ev (fun k => batonlaw03_long.l0 k l n (i : Int)) b ∧ (b = false → l.length ≤ 100) := by
  intro d
  induction d with
  | zero =>
    intro i n hi h1 h2
    refine ⟨decide (n ≥ 5000), ev_step (fun k => rfl) ?_, fun h => ?_⟩
    · simp only [batonlaw03_long.l0]
      exact ev_neg (by omega) (ev_now _)
    · simp at h
      omega
  | succ d ih =>
    intro i n hi h1 h2
    by_cases h5 : n < 5000
    · have hm : 0 ≤ mn (((rd_T72 l (i : Int)).f1).size : Int) 5000 ∧ mn (((rd_T72 l (i : Int)).f1).size : Int) 5000 ≤ 5000 := by unfold mn; omega
      obtain ⟨b, hb, hc⟩ := ih (i + 1) (n + 70 + mn (((rd_T72 l (i : Int)).f1).size : Int) 5000) (by omega) (by omega) (by omega)
      refine ⟨b, ev_step (fun k => rfl) ?_, hc⟩
      simp only [batonlaw03_long.l0]
      refine ev_pos (by omega) (ev_pos h5 (ev_pos (by omega) ?_))
      rw [wr (n := n + 70) (by omega) (by omega), wr (n := n + 70 + _) (by omega) (by omega), wr (n := (i : Int) + 1) (by omega) (by omega)]
      exact hb
    · refine ⟨decide (n ≥ 5000), ev_step (fun k => rfl) ?_, fun h => ?_⟩
      · simp only [batonlaw03_long.l0]
        exact ev_pos (by omega) (ev_neg h5 (ev_now _))
      · simp at h
        omega
theorem long_ev (l : List S72) (hl : l.length ≤ 140737488351232) : ∃ b, Ev (fun k => batonlaw03_long.f k l) b ∧ (b = false → l.length ≤ 100) := by
  unfold batonlaw03_long.f
  exact long_loop l hl l.length 0 0 (by omega) (by omega) (by omega)
theorem given_loop (l : List S72) (hl : l.length ≤ 100) : ∀ (d i : Nat) (acc : List S35), i + d = l.length → acc.length ≤ i →
    Ev (fun k => batonlaw03_given.l0 k l acc (i : Int)) (acc ++ (l.drop i).map p35) := by
  intro d
  induction d with
  | zero =>
    intro i acc hi ha
    refine ev_step (fun k => rfl) ?_
    simp only [batonlaw03_given.l0]
    rw [List.drop_of_length_le (by omega)]
    exact ev_neg (by omega) (ev_eq (ev_now _) (by simp))
  | succ d ih =>
    intro i acc hi ha
    refine ev_step (fun k => rfl) ?_
    simp only [batonlaw03_given.l0]
    have e : rd_T72 l (i : Int) = l[i]'(by omega) := by unfold rd_T72; rw [Int.toNat_natCast]; simp [List.getD, List.getElem?_eq_getElem (show i < l.length by omega)]
    rw [e, List.drop_eq_getElem_cons (show i < l.length by omega)]
    refine ev_pos (by omega) (ev_pos (by omega) (ev_pos (by omega) ?_))
    rw [wr (n := (i : Int) + 1) (by omega) (by omega)]
    refine ev_eq (ih (i + 1) _ (by omega) (by simp; omega)) ?_
    rw [List.map_cons, List.append_assoc]
    rfl
theorem given_ev (l : List S72) (hl : l.length ≤ 100) : Ev (fun k => batonlaw03_given.f k l) (l.map p35) := by
  unfold batonlaw03_given.f
  exact given_loop l hl l.length 0 [] (by omega) (by simp)
end Go.Proofs.Ythcjcmgdblhhfaa.SpecVc

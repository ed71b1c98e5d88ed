/- SeriesPicks is true for every input: the samples between two times, two series joined, each number's word and how many there are of each. No further condition. -/
import Derived.Test.YtbedpnklnamnhaaDoorPickF
import Derived.Test.YtbedpnklnamnhaaDoorPFx21
namespace Go.Proofs.YtbedpnklnamnhaaDoor.Pure
open Go.RowKit Go.Proofs.YtbedpnklnamnhaaDoor.PF Go.Proofs.YtbedpnklnamnhaaDoor.SpecF Go.Proofs.YtbedpnklnamnhaaDoor.SpecJF Go.Proofs.YtbedpnklnamnhaaDoor.PickF Go.Proofs.YtbedpnklnamnhaaDoorW.PrintWords Go.Proofs.YtbedpnklnamnhaaDoorW.PrintLast
set_option linter.unusedVariables false
theorem picks_l2 : ∀ (d i : Nat) (z : List S40), z.length ≤ 3000000 → i + d = z.length → Ev (fun k => batonlaw22_SeriesPicks.l2 k z (i : Int)) true := by
  intro d
  induction d with
  | zero =>
    intro i z hz hi
    refine ev_step (fun k => rfl) ?_
    simp only [batonlaw22_SeriesPicks.l2]
    exact ev_neg (by omega) (ev_bind awake_is (ev_now _))
  | succ d ih =>
    intro i z hz hi
    refine ev_step (fun k => rfl) ?_
    simp only [batonlaw22_SeriesPicks.l2]
    refine ev_pos (by omega) (ev_pos (by omega) ?_)
    rw [wrap_nat (show i < z.length by omega) (by omega)]
    exact ih (i + 1) _ (by rw [List.length_set]; omega) (by rw [List.length_set]; omega)
theorem picks_l0 (l : List Int) (z : List S40) (hl : l.length ≤ 1000) (hz : z.length ≤ 3000000) (hm : ∀ x ∈ l, 0 ≤ x ∧ x < 256) : ∀ (d i : Nat), i + d = l.length →
    Ev (fun k => batonlaw22_SeriesPicks.l0 k l z (l.take i) (i : Int)) true := by
  have hw : ∀ i, i < l.length → 0 ≤ l.getD i 0 ∧ l.getD i 0 < 256 := fun i hi => by
    apply hm
    rw [List.getD, List.getElem?_eq_getElem hi, Option.getD_some]
    exact List.getElem_mem _
  intro d
  induction d with
  | zero =>
    intro i hi
    rw [List.take_of_length_le (by omega)]
    refine ev_step (fun k => rfl) ?_
    simp only [batonlaw22_SeriesPicks.l0]
    have hc : series_Count.f l = some ((cnt l 0 : Int), (cnt l 1 : Int), (cnt l 2 : Int), (cnt l 3 : Int), (cnt l 4 : Int)) := by
      unfold series_Count.f
      rw [if_pos (by omega), if_pos]
      unfold cntAll
      rw [List.all_eq_true]
      intro x hx
      have := hm x hx
      simp [this.1, this.2]
    rw [hc]
    refine ev_neg (by omega) (ev_some (ev_bind (rcount_is l (by omega) hw) ?_))
    have five : ((cl l).length : Int) = 5 := rfl
    refine ev_pos (by rw [five]; decide) (ev_pos rfl (ev_pos (by rw [five]; decide) (ev_pos rfl (ev_pos (by rw [five]; decide) (ev_pos rfl (ev_pos (by rw [five]; decide) (ev_pos rfl (ev_pos (by rw [five]; decide) (ev_pos rfl ?_)))))))))
    exact picks_l2 z.length 0 z hz (by omega)
  | succ d ih =>
    intro i hi
    have hil : i < l.length := by omega
    have ht : l.take i ++ [l.getD i 0] = l.take (i + 1) := by
      rw [List.take_succ_eq_append_getElem hil, List.getD, List.getElem?_eq_getElem hil, Option.getD_some]
    have hr : rd (l.take (i + 1)) (i : Int) = l.getD i 0 := by
      rw [rdi_nat, List.getD, List.getD, List.getElem?_take_of_lt (by omega)]
    have hlen : (l.take (i + 1)).length = i + 1 := by rw [List.length_take]; omega
    have hlen0 : (l.take i).length = i := by rw [List.length_take]; omega
    obtain ⟨h0, h1⟩ := hw i hil
    refine ev_step (fun k => rfl) ?_
    simp only [batonlaw22_SeriesPicks.l0]
    refine ev_pos (by omega) (ev_pos (by omega) (ev_pos (by omega) ?_))
    rw [rdi_nat l i, ht, wrap_nat hil (by omega)]
    refine ev_some (ev_pos (by omega) ?_)
    rw [hr]
    have next := ih (i + 1) (by omega)
    generalize l.getD i 0 = v at *
    have hs : series_Verdict_String.f v = some (vword v) := by unfold series_Verdict_String.f; rw [if_pos h0, if_pos h1]
    rw [hs]
    refine ev_some (ev_bind (word_is v h0 h1) (ev_pos rfl ?_))
    by_cases h3 : v = 3
    · have hb : series_Verdict_Bad.f v = some true := by unfold series_Verdict_Bad.f; rw [if_pos h3]
      rw [hb]
      exact ev_some (ev_pos h3 (ev_neg (by simp) next))
    · have hb : series_Verdict_Bad.f v = some (v == 4) := by unfold series_Verdict_Bad.f; rw [if_neg h3]
      rw [hb]
      exact ev_some (ev_neg h3 (ev_neg (by simp) next))
theorem SeriesPicks : batonlaw22_SeriesPicks.Pure := by
  intro a b f t l _ _ _ _ _ _ _ _ _ _ hw
  refine Ev.rounds (g := fun k => batonlaw22_SeriesPicks.f k a b f t l) ?_
  have out : Ev (fun k => batonlaw22_SeriesPicks.j0 k a b f t l true) true := by
    refine ev_step (fun k => rfl) ?_
    simp only [batonlaw22_SeriesPicks.j0]
    exact ev_pos (by trivial) (ev_bind awake_is (ev_now _))
  unfold batonlaw22_SeriesPicks.f
  by_cases h1 : (a.length : Int) > 1000
  · exact ev_pos h1 out
  refine ev_neg h1 ?_
  by_cases h2 : (b.length : Int) > 1000
  · exact ev_pos h2 out
  refine ev_neg h2 ?_
  by_cases h3 : (l.length : Int) > 1000
  · rw [decide_eq_true h3]; exact out
  rw [decide_eq_false h3]
  have hz := jw_len a b
  have hb : (bw a f t).1.length ≤ a.length := by
    unfold bw
    split
    · exact (bet_sub a f t).length_le
    · exact Nat.zero_le _
  have hm : ∀ x ∈ l, 0 ≤ x ∧ x < 256 := fun x hx => by
    have := hw x hx
    simp [Lit.wf, IntKind.min, IntKind.max, IntKind.signed, IntKind.bits] at this
    omega
  refine ev_step (fun k => rfl) ?_
  simp only [batonlaw22_SeriesPicks.j0]
  refine ev_neg (by simp) (ev_bind (bw_is a f t (by omega)) (ev_bind (rbw_is a f t (by omega)) (ev_bind (jw_is a b (by omega) (by omega)) (ev_bind (rjw_is a b (by omega) (by omega)) (ev_bind (same_refl _ (by omega)) (ev_pos (by trivial) (ev_pos rfl (ev_bind (same_refl _ (by omega)) (ev_pos (by trivial) (ev_step (fun k => rfl) ?_))))))))))
  simp only [batonlaw22_SeriesPicks.j1]
  refine ev_neg (by simp) ?_
  exact picks_l0 l _ (by omega) (by omega) hm l.length 0 (by omega)
end Go.Proofs.YtbedpnklnamnhaaDoor.Pure

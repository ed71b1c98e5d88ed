/- SeriesRises is true for every input: samples that may be a series' own, all above its last one, are all new, and behind that each is known, with other bits other; for any two rows of samples, whatever memory they lie in. No further condition. -/
import Derived.Test.YtbedpnklnamnhaaPBx
import Derived.Test.YtbedpnklnamnhaaSpecB
namespace Go.Proofs.Ytbedpnklnamnhaa.Pure
open Go.RowKit Go.Proofs.Ytbedpnklnamnhaa.PB Go.Proofs.Ytbedpnklnamnhaa.SpecB Go.Proofs.YtbedpnklnamnhaaW.PrintWords Go.Proofs.YtbedpnklnamnhaaW.PrintLast
set_option linter.unusedVariables false

theorem cnt_ones (r : List S25) (j : Int) : cnt (r.map (fun _ => (1 : Int))) j = if j = 1 then r.length else 0 := by
  unfold cnt
  by_cases h : j = 1
  · subst h; rw [if_pos rfl, List.filter_eq_self.2 (by intro a ha; simp at ha; simp [ha.2])]; simp
  · rw [if_neg h, List.filter_eq_nil_iff.2 (by intro a ha; simp at ha; simp [ha.2.symm]; omega)]; rfl

theorem SeriesRises : batonlaw22_SeriesRises.Pure := by
  intro l r a b _ _ _ _ _ _ _ _
  refine Ev.rounds (g := fun k => batonlaw22_SeriesRises.f k l r a b) ?_
  have out : Ev (fun k => batonlaw22_SeriesRises.j0 k l r a b true) true := ev_step (fun k => rfl) (ev_bind awake_is (ev_now _))
  unfold batonlaw22_SeriesRises.f
  by_cases h1 : (l.length : Int) > 500
  · exact ev_pos h1 out
  refine ev_neg h1 ?_
  by_cases h2 : (r.length : Int) > 500
  · exact ev_pos h2 out
  refine ev_neg h2 (ev_bind (may_is l (by omega)) ?_)
  by_cases h4 : may l = true
  case neg => exact ev_neg h4 out
  refine ev_pos h4 (ev_bind (may_is r (by omega)) ?_)
  by_cases h5 : may r = true
  case neg => exact ev_neg h5 out
  refine ev_pos h5 (ev_bind awake_is ?_)
  have main : (∀ x ∈ l, ∀ y ∈ r, x.f0 < y.f0) → Ev (fun k => batonlaw22_SeriesRises.j1 k l r a b false) true := by
    intro hlt
    refine ev_step (fun k => rfl) ?_
    have hp := pt_fresh r l h5 hlt
    have hpu : pu l r = (l ++ r, r.map (fun _ => (1 : Int)), 0) := by unfold pu; rw [if_pos h4, hp]
    have hmay : may (l ++ r) = true := by have := pt_may h4 r; rw [hp] at this; exact this
    refine ev_bind (put_is l r (by omega) (by omega)) ?_
    rw [hpu]
    refine ev_pos rfl ?_
    have hc : series_Count.f (r.map (fun _ => (1 : Int))) = some (0, (r.length : Int), 0, 0, 0) := by
      unfold series_Count.f
      rw [if_pos (by simp; omega), if_pos (by unfold cntAll; simp)]
      simp [cnt_ones]
    refine ev_bind (ev_pure hc) (ev_neg (by simp) ?_)
    have hw : ((((l ++ r).length : Int)) != wrap64 ((l.length : Int) + (r.length : Int))) = false := by
      simp only [bne_eq_false_iff_eq, List.length_append]; unfold wrap64; omega
    show Ev (fun n => batonlaw22_SeriesRises.j2 n a b (l ++ r) ((((l ++ r).length : Int)) != wrap64 ((l.length : Int) + (r.length : Int)))) true
    rw [hw]
    refine ev_step (fun k => rfl) ?_
    generalize hq : l ++ r = q at *
    have hql : q.length ≤ 1000 := by rw [← hq]; simp; omega
    by_cases h0 : q.length = 0
    · exact ev_pos (by omega) (ev_now _)
    refine ev_neg (by omega) ?_
    have hn : IntKind.u64.wrap (q.length : Int) = (q.length : Int) := by show (q.length : Int) % 18446744073709551616 = _; omega
    obtain ⟨m, hm, hmq⟩ : ∃ m : Nat, wrap64 (Int.tmod (IntKind.u64.wrap a) (q.length : Int)) = (m : Int) ∧ m < q.length := by
      have ha : 0 ≤ IntKind.u64.wrap a := by show 0 ≤ a % 18446744073709551616; omega
      have e1 : Int.tmod (IntKind.u64.wrap a) (q.length : Int) = (IntKind.u64.wrap a) % (q.length : Int) := Int.tmod_eq_emod_of_nonneg ha
      have e2 : 0 ≤ (IntKind.u64.wrap a) % (q.length : Int) := Int.emod_nonneg _ (by omega)
      have e3 : (IntKind.u64.wrap a) % (q.length : Int) < (q.length : Int) := Int.emod_lt_of_pos _ (by omega)
      refine ⟨((IntKind.u64.wrap a) % (q.length : Int)).toNat, ?_, by omega⟩
      rw [e1]; unfold wrap64; omega
    rw [hn]
    refine ev_neg (by omega) ?_
    rw [hm]
    refine ev_pos (by omega) (ev_pos (by omega) ?_)
    rw [rd_nat]
    refine ev_bind (judged_is q _ _ _ (by omega) hmay) ?_
    rw [jd_at hmay hmq, if_pos rfl]
    refine ev_pos rfl ?_
    by_cases h3 : b = (el q m).f1
    · exact ev_pos h3 (ev_now _)
    · refine ev_neg h3 (ev_bind (judged_is q _ _ _ (by omega) hmay) ?_)
      rw [jd_at hmay hmq, if_neg (fun e => h3 e.symm)]
      exact ev_now _
  refine ev_step (fun k => rfl) ?_
  by_cases h6 : l.length = 0
  · exact ev_neg (by omega) (main (fun x hx => by rw [List.eq_nil_of_length_eq_zero h6] at hx; simp at hx))
  by_cases h7 : r.length = 0
  · exact ev_pos (by omega) (ev_neg (by omega) (main (fun x hx y hy => by rw [List.eq_nil_of_length_eq_zero h7] at hy; simp at hy)))
  refine ev_pos (by omega) (ev_pos (by omega) (ev_pos (by omega) ?_))
  rw [wrap_pred (show 0 < l.length by omega) (Nat.le_refl _) (by omega), rd_nat]
  refine ev_pos (by omega) (ev_pos (by omega) ?_)
  have e0 : rd_T25 r 0 = el r 0 := rd_nat r 0
  rw [e0]
  by_cases h8 : (el r 0).f0 ≤ (el l (l.length - 1)).f0
  · rw [decide_eq_true h8]; exact ev_step (fun k => rfl) (ev_now _)
  · rw [decide_eq_false h8]
    refine main (fun x hx y hy => ?_)
    obtain ⟨i, hi, rfl⟩ := mem_el hx
    obtain ⟨j, hj, rfl⟩ := mem_el hy
    have a1 : (el l i).f0 ≤ (el l (l.length - 1)).f0 := by
      by_cases e : i = l.length - 1
      · rw [e]; omega
      · have := ups_el (may_ups h4) i (l.length - 1) (by omega) (by omega); omega
    have a2 : (el r 0).f0 ≤ (el r j).f0 := by
      by_cases e : j = 0
      · rw [e]; omega
      · have := ups_el (may_ups h5) 0 j (by omega) hj; omega
    omega

end Go.Proofs.Ytbedpnklnamnhaa.Pure

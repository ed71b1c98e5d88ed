/- SeriesAgain is true for every input: put again, the same samples change nothing, and no more and no fewer of them are bad, for any three rows of samples, whatever memory they lie in. No further condition. -/
import Derived.Test.YtbedpnklnamnhaaPCx
import Derived.Test.YtbedpnklnamnhaaSpecC
namespace Go.Proofs.Ytbedpnklnamnhaa.Pure
open Go.RowKit Go.Proofs.Ytbedpnklnamnhaa.PC Go.Proofs.Ytbedpnklnamnhaa.SpecC Go.Proofs.YtbedpnklnamnhaaW.PrintWords Go.Proofs.YtbedpnklnamnhaaW.PrintLast
set_option linter.unusedVariables false

/-- What becomes of a verdict when the sample is put again. -/
def fin (v : Int) : Int := if v = 1 then 2 else v
theorem jd_again (l r : List S25) (s : S25) : jd ((if jd l s.f0 s.f1 = 1 then l ++ [s] else l) ++ r) s.f0 s.f1 = fin (jd l s.f0 s.f1) := by
  by_cases hm : mayT s.f0 = true
  · have e (L : List S25) : jd L s.f0 s.f1 = jf (L.find? (fun x => decide (s.f0 ≤ x.f0))) s.f0 s.f1 := by unfold jd; rw [if_pos hm]
    rw [e l]
    cases hf : l.find? (fun x => decide (s.f0 ≤ x.f0)) with
    | none =>
      rw [jf_none, if_pos rfl, e, List.find?_append, List.find?_append, hf]
      have : [s].find? (fun x => decide (s.f0 ≤ x.f0)) = some s := by simp
      rw [this]
      show jf (some s) s.f0 s.f1 = fin 1
      rw [jf_some, if_pos rfl, if_pos rfl]
      rfl
    | some x =>
      have hne : jf (some x) s.f0 s.f1 ≠ 1 := by rw [jf_some]; split <;> (try split) <;> decide
      rw [if_neg hne, e, List.find?_append, hf]
      show jf (some x) s.f0 s.f1 = fin (jf (some x) s.f0 s.f1)
      unfold fin
      rw [if_neg hne]
  · have e (L : List S25) : jd L s.f0 s.f1 = 4 := by unfold jd; rw [if_neg hm]
    rw [e, e]
    rfl
theorem pt_ext : ∀ (more l : List S25), ∃ r, (pt l more).1 = l ++ r
  | [], l => ⟨[], by simp [pt]⟩
  | s :: more, l => by
    rw [pt_cons]
    obtain ⟨r, h⟩ := pt_ext more (if jd l s.f0 s.f1 = 1 then l ++ [s] else l)
    simp only
    rw [h]
    split
    · exact ⟨[s] ++ r, by rw [List.append_assoc]⟩
    · exact ⟨r, rfl⟩
theorem fin_ne (v : Int) : fin v ≠ 1 := by unfold fin; split <;> omega
theorem pt_again : ∀ (more l r : List S25), pt ((pt l more).1 ++ r) more = ((pt l more).1 ++ r, (pt l more).2.map fin)
  | [], l, r => by simp [pt]
  | s :: more, l, r => by
    rw [pt_cons l s more]
    simp only
    obtain ⟨q, hq⟩ := pt_ext more (if jd l s.f0 s.f1 = 1 then l ++ [s] else l)
    have hj : jd ((pt (if jd l s.f0 s.f1 = 1 then l ++ [s] else l) more).1 ++ r) s.f0 s.f1 = fin (jd l s.f0 s.f1) := by
      rw [hq, List.append_assoc]
      exact jd_again l (q ++ r) s
    rw [pt_cons, hj, if_neg (fin_ne _), pt_again more _ r, List.map_cons]
theorem pt_vals : ∀ (more l : List S25), ∀ v ∈ (pt l more).2, v = 1 ∨ v = 2 ∨ v = 3 ∨ v = 4
  | [], l => by simp [pt]
  | s :: more, l => by
    rw [pt_cons]
    intro v hv
    rcases List.mem_cons.1 hv with rfl | hv
    · exact jd_cases l s.f0 s.f1
    · exact pt_vals more _ v hv
/-- How many verdicts from i on are bad. -/
def bd : List Int → Int
  | [] => 0
  | v :: l => (if v = 3 ∨ v = 4 then 1 else 0) + bd l
theorem bd_fin : ∀ l : List Int, bd (l.map fin) = bd l
  | [] => rfl
  | v :: l => by
    rw [List.map_cons, bd, bd, bd_fin l]
    congr 1
    unfold fin
    by_cases h : v = 1
    · subst h; decide
    · rw [if_neg h]
theorem Bad_is (v : Int) : series_Verdict_Bad.f v = some (decide (v = 3 ∨ v = 4)) := by
  unfold series_Verdict_Bad.f
  by_cases h : v = 3
  · rw [if_pos h, decide_eq_true (Or.inl h)]
  · rw [if_neg h]
    by_cases h2 : v = 4
    · rw [decide_eq_true (Or.inr h2), h2]; rfl
    · rw [decide_eq_false (by omega)]
      congr 1
      simpa using h2
theorem bad_loop (l : List Int) (hl : l.length ≤ 1000000) : ∀ (d i : Nat) (n : Int), i + d = l.length → 0 ≤ n → n ≤ i → Ev (fun k => batonlaw22_bad.l0 k l n (i : Int)) (n + bd (l.drop i)) := by
  intro d
  induction d with
  | zero =>
    intro i n hi h0 h1
    refine ev_step (fun k => rfl) (ev_neg (by omega) (ev_eq (ev_now _) ?_))
    rw [List.drop_of_length_le (by omega), bd]
    omega
  | succ d ih =>
    intro i n hi h0 h1
    refine ev_step (fun k => rfl) (ev_pos (by omega) (ev_pos (by omega) ?_))
    rw [rdi_nat, wrap_nat (show i < l.length by omega) (by omega), Bad_is]
    have e : l.getD i 0 = l[i]'(by omega) := by simp [List.getD, List.getElem?_eq_getElem (show i < l.length by omega)]
    refine ev_some ?_
    rw [List.drop_eq_getElem_cons (show i < l.length by omega), bd, ← e]
    by_cases h : l.getD i 0 = 3 ∨ l.getD i 0 = 4
    · rw [if_pos h]
      refine ev_pos (decide_eq_true h) ?_
      rw [show wrap64 (n + 1) = n + 1 from by unfold wrap64; omega]
      exact ev_eq (ih (i + 1) (n + 1) (by omega) (by omega) (by omega)) (by omega)
    · rw [if_neg h]
      exact ev_neg (by simpa using h) (ev_eq (ih (i + 1) n (by omega) (by omega) (by omega)) (by omega))
theorem bad_is (l : List Int) (hl : l.length ≤ 1000000) : Ev (fun k => batonlaw22_bad.f k l) (bd l) := by
  unfold batonlaw22_bad.f
  exact ev_eq (bad_loop l hl l.length 0 0 (by omega) (by omega) (by omega)) (by simp)
theorem again_loop (v : List Int) (hl : v.length ≤ 1000000) (hv : ∀ x ∈ v, x = 1 ∨ x = 2 ∨ x = 3 ∨ x = 4) : ∀ (d i : Nat), i + d = v.length → Ev (fun k => batonlaw22_SeriesAgain.l0 k v (v.map fin) (v.map fin) (i : Int)) true := by
  intro d
  induction d with
  | zero => intro i hi; exact ev_step (fun k => rfl) (ev_neg (by omega) (ev_now _))
  | succ d ih =>
    intro i hi
    have hx := hv (v[i]'(by omega)) (List.getElem_mem _)
    have e : v.getD i 0 = v[i]'(by omega) := by simp [List.getD, List.getElem?_eq_getElem (show i < v.length by omega)]
    have ef : (v.map fin).getD i 0 = fin (v[i]'(by omega)) := by simp [List.getD, List.getElem?_eq_getElem (show i < v.length by omega)]
    have hlm : ((v.map fin).length : Int) = (v.length : Int) := by rw [List.length_map]
    refine ev_step (fun k => rfl) (ev_pos (by omega) (ev_pos (by omega) ?_))
    rw [rdi_nat, rdi_nat, e, ef, wrap_nat (show i < v.length by omega) (by omega), hlm, Bad_is, Bad_is]
    have next := ih (i + 1) (by omega)
    generalize v[i]'(by omega) = x at hx
    rcases hx with rfl | rfl | rfl | rfl
    · exact ev_some (ev_pos (by omega) (ev_some (ev_neg (by decide) (ev_some (ev_neg (by decide) (ev_pos (by decide) (ev_pos (by omega) (ev_pos rfl next))))))))
    · exact ev_some (ev_pos (by omega) (ev_some (ev_neg (by decide) (ev_some (ev_neg (by decide) (ev_pos (by decide) (ev_pos (by omega) (ev_pos rfl next))))))))
    · exact ev_some (ev_pos (by omega) (ev_some (ev_neg (by decide) (ev_some (ev_pos (by decide) (ev_pos (by omega) (ev_pos rfl next)))))))
    · exact ev_some (ev_pos (by omega) (ev_some (ev_neg (by decide) (ev_some (ev_pos (by decide) (ev_pos (by omega) (ev_pos rfl next)))))))

theorem SeriesAgain : batonlaw22_SeriesAgain.Pure := by
  intro l more btw _ _ _ _ _ _ _ _ _
  refine Ev.rounds (g := fun k => batonlaw22_SeriesAgain.f k l more btw) ?_
  have out : Ev (fun k => batonlaw22_SeriesAgain.j0 k l more btw true) true := ev_step (fun k => rfl) (ev_bind awake_is (ev_now _))
  unfold batonlaw22_SeriesAgain.f
  by_cases h1 : (l.length : Int) > 500
  · exact ev_pos h1 out
  refine ev_neg h1 ?_
  by_cases h2 : (more.length : Int) > 500
  · exact ev_pos h2 out
  refine ev_neg h2 ?_
  by_cases h3 : (btw.length : Int) > 500
  · exact ev_pos h3 out
  refine ev_neg h3 (ev_bind (may_is l (by omega)) ?_)
  by_cases h4 : may l = true
  case neg => exact ev_neg h4 out
  refine ev_pos h4 (ev_bind awake_is (ev_step (fun k => rfl) ?_))
  have ha := pt_len more l
  have mA := pt_may h4 more
  have mC := pt_may mA btw
  have hc := pt_len btw (pt l more).1
  obtain ⟨r, hr⟩ := pt_ext btw (pt l more).1
  have ap : pt (pt l more).1 more = ((pt l more).1, (pt l more).2.map fin) := by
    have := pt_again more l []
    rwa [List.append_nil] at this
  have cp : pt (pt (pt l more).1 btw).1 more = ((pt (pt l more).1 btw).1, (pt l more).2.map fin) := by rw [hr]; exact pt_again more l r
  have p1 : Ev (fun k => series_Put.f k l more) ((pt l more).1, (pt l more).2, 0) := by
    have := put_is l more (by omega) (by omega)
    unfold pu at this; rwa [if_pos h4] at this
  have p2 : Ev (fun k => series_Put.f k (pt l more).1 more) ((pt l more).1, (pt l more).2.map fin, 0) := by
    have := put_is (pt l more).1 more (by omega) (by omega)
    unfold pu at this; rwa [if_pos mA, ap] at this
  have p3 : Ev (fun k => series_Put.f k (pt l more).1 btw) ((pt (pt l more).1 btw).1, (pt (pt l more).1 btw).2, 0) := by
    have := put_is (pt l more).1 btw (by omega) (by omega)
    unfold pu at this; rwa [if_pos mA] at this
  have p4 : Ev (fun k => series_Put.f k (pt (pt l more).1 btw).1 more) ((pt (pt l more).1 btw).1, (pt l more).2.map fin, 0) := by
    have := put_is (pt (pt l more).1 btw).1 more (by omega) (by omega)
    unfold pu at this; rwa [if_pos mC, cp] at this
  have b1 := bad_is (pt l more).2 (by omega)
  have b2 := bad_is ((pt l more).2.map fin) (by rw [List.length_map]; omega)
  rw [bd_fin] at b2
  refine ev_bind p1 (ev_bind p2 (ev_bind p3 (ev_bind p4 (ev_pos rfl (ev_pos rfl (ev_pos rfl (ev_pos rfl (ev_pos (by show ((pt l more).2.length : Int) = _; omega) ?_))))))))
  refine ev_bind (same_refl _ (by show (pt l more).1.length ≤ _; omega)) (ev_pos rfl (ev_bind (same_refl _ (by show (pt (pt l more).1 btw).1.length ≤ _; omega)) (ev_pos rfl (ev_bind b1 (ev_bind b2 (ev_pos rfl (ev_bind b1 (ev_bind b2 (ev_pos rfl ?_)))))))))
  exact again_loop (pt l more).2 (by omega) (pt_vals more l) _ 0 (Nat.zero_add _)

end Go.Proofs.Ytbedpnklnamnhaa.Pure

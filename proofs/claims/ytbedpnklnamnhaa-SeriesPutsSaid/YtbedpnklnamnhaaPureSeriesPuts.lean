/- SeriesPuts is true for every input: Put and Judge of the program answer as the document's do, for any two rows of samples and any sample, whatever memory they lie in. No further condition. -/
import Derived.Test.YtbedpnklnamnhaaPAx
import Derived.Test.YtbedpnklnamnhaaSpecA
namespace Go.Proofs.Ytbedpnklnamnhaa.Pure
open Go.RowKit Go.Proofs.Ytbedpnklnamnhaa.PA Go.Proofs.Ytbedpnklnamnhaa.SpecA Go.Proofs.YtbedpnklnamnhaaW.PrintWords Go.Proofs.YtbedpnklnamnhaaW.PrintLast
set_option linter.unusedVariables false

theorem puts_l1 (x0 x1 x7 x8 x9 : List S25) (x10 : List Int) (x11 x12 t b : Int) (r : Bool) (h : Ev (fun k => batonlaw22_SeriesPuts.l0 k x0 x1 x7 x8 x9 x10 x11 (wrap64 (x12 + 1)) t b) r) :
    ∀ (d i : Nat) (x13 : List S25), i + d = x13.length → x13.length ≤ 3000000 → Ev (fun k => batonlaw22_SeriesPuts.l1 k x0 x1 x7 x8 x9 x10 x11 x12 x13 (i : Int) t b) r := by
  intro d
  induction d with
  | zero => intro i x13 hi hn; exact ev_step (fun k => rfl) (ev_neg (by omega) h)
  | succ d ih =>
    intro i x13 hi hn
    refine ev_step (fun k => rfl) (ev_pos (by omega) (ev_pos (by omega) ?_))
    rw [wrap_nat (show i < x13.length by omega) (by omega)]
    exact ih (i + 1) _ (by simp; omega) (by simp; omega)

theorem puts_round (l more : List S25) (hl : l.length ≤ 1000) (hm : more.length ≤ 1000) (x12 : Int) (h2 : x12 < 2) (t b : Int) (r : Bool)
    (h : Ev (fun k => batonlaw22_SeriesPuts.l0 k l more l more (pu l more).1 (pu l more).2.1 (pu l more).2.2 (wrap64 (x12 + 1)) t b) r) :
    Ev (fun k => batonlaw22_SeriesPuts.l0 k l more l more (pu l more).1 (pu l more).2.1 (pu l more).2.2 x12 t b) r := by
  have hlen : (pu l more).1.length ≤ 3000 ∧ (pu l more).2.1.length ≤ 3000 := by
    have := pt_len more l
    unfold pu; split
    · exact ⟨by show (pt l more).1.length ≤ _; omega, by show (pt l more).2.length ≤ _; omega⟩
    · simp
  refine ev_step (fun k => rfl) (ev_pos h2 ?_)
  refine ev_bind (put_is l more (by omega) (by omega)) ?_
  refine ev_bind (same_refl _ (by omega)) (ev_pos rfl ?_)
  refine ev_bind (ver_refl _ (by omega)) (ev_pos rfl (ev_pos rfl ?_))
  refine ev_bind (same_refl _ (by omega)) (ev_pos rfl ?_)
  refine ev_bind (same_refl _ (by omega)) ?_
  exact ev_step (fun k => rfl) (puts_l1 _ _ _ _ _ _ _ _ _ _ _ h _ 0 _ (Nat.zero_add _) (by omega))

theorem SeriesPuts : batonlaw22_SeriesPuts.Pure := by
  intro l more t b _ _ _ _ _ _ _ _
  refine Ev.rounds (g := fun k => batonlaw22_SeriesPuts.f k l more t b) ?_
  unfold batonlaw22_SeriesPuts.f
  by_cases h1 : (l.length : Int) > 1000
  · exact ev_pos h1 (ev_step (fun k => rfl) (ev_bind awake_is (ev_now _)))
  refine ev_neg h1 ?_
  by_cases h2 : (more.length : Int) > 1000
  · rw [decide_eq_true h2]; exact ev_step (fun k => rfl) (ev_bind awake_is (ev_now _))
  rw [decide_eq_false h2]
  refine ev_step (fun k => rfl) (ev_some (ev_pos (by simp; omega) (ev_some (ev_pos (by simp; omega) ?_))))
  refine ev_bind (rput_is l more (by omega) (by omega)) ?_
  rw [List.nil_append, List.nil_append]
  refine puts_round l more (by omega) (by omega) 0 (by omega) t b true ?_
  rw [show wrap64 (0 + 1) = 1 from by unfold wrap64; omega]
  refine puts_round l more (by omega) (by omega) 1 (by omega) t b true ?_
  rw [show wrap64 (1 + 1) = 2 from by unfold wrap64; omega]
  refine ev_step (fun k => rfl) (ev_bind (Judge_is l t b (by omega)) (ev_bind (rJudge_is l t b (by omega)) (ev_pos rfl (ev_pos rfl ?_))))
  refine ev_bind (may_is l (by omega)) (ev_bind (rmay_is l (by omega)) (ev_pos (by simp) (ev_bind awake_is (ev_now _))))

end Go.Proofs.Ytbedpnklnamnhaa.Pure

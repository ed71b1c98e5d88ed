/- SeriesParts is true for every input: samples put in two parts come to what all come to at once, for any three rows of samples, whatever memory they lie in. No further condition. -/
import Derived.Test.YtbedpnklnamnhaaPAx
import Derived.Test.YtbedpnklnamnhaaSpecA
namespace Go.Proofs.Ytbedpnklnamnhaa.Pure
open Go.RowKit Go.Proofs.Ytbedpnklnamnhaa.PA Go.Proofs.Ytbedpnklnamnhaa.SpecA Go.Proofs.YtbedpnklnamnhaaW.PrintWords Go.Proofs.YtbedpnklnamnhaaW.PrintLast
set_option linter.unusedVariables false

theorem pt_app : ∀ (a b l : List S25), pt l (a ++ b) = ((pt (pt l a).1 b).1, (pt l a).2 ++ (pt (pt l a).1 b).2)
  | [], b, l => by simp [pt]
  | s :: a, b, l => by rw [List.cons_append, pt_cons, pt_app a b, pt_cons]; rfl
theorem parts_loop (a : List Int) (hn : a.length ≤ 3000000) : ∀ (d i : Nat), i + d = a.length → Ev (fun k => batonlaw22_SeriesParts.l0 k a a (i : Int)) true := by
  intro d
  induction d with
  | zero => intro i hi; exact ev_step (fun k => rfl) (ev_neg (by omega) (ev_now _))
  | succ d ih =>
    intro i hi
    refine ev_step (fun k => rfl) (ev_pos (by omega) (ev_pos (by omega) (ev_pos (by omega) (ev_pos rfl ?_))))
    rw [wrap_nat (show i < a.length by omega) (by omega)]
    exact ih (i + 1) (by omega)

theorem SeriesParts : batonlaw22_SeriesParts.Pure := by
  intro l a b _ _ _ _ _ _ _ _ _
  refine Ev.rounds (g := fun k => batonlaw22_SeriesParts.f k l a b) ?_
  have out : Ev (fun k => batonlaw22_SeriesParts.j0 k l a b true) true := ev_step (fun k => rfl) (ev_bind awake_is (ev_now _))
  unfold batonlaw22_SeriesParts.f
  by_cases h1 : (l.length : Int) > 500
  · exact ev_pos h1 out
  refine ev_neg h1 ?_
  by_cases h2 : (a.length : Int) > 500
  · exact ev_pos h2 out
  refine ev_neg h2 ?_
  by_cases h3 : (b.length : Int) > 500
  · exact ev_pos h3 out
  refine ev_neg h3 (ev_bind (may_is l (by omega)) ?_)
  by_cases h4 : may l = true
  case neg => exact ev_neg h4 out
  refine ev_pos h4 (ev_bind awake_is (ev_step (fun k => rfl) ?_))
  have hu := may_ups h4
  have ha := pt_len a l
  have hb := pt_len b (pt l a).1
  have hp : pu l a = ((pt l a).1, (pt l a).2, 0) := by unfold pu; rw [if_pos h4]
  refine ev_bind (put_is l a (by omega) (by omega)) ?_
  rw [hp]
  have hq : Ev (fun k => series_Put.f k (pt l a).1 b) ((pt (pt l a).1 b).1, (pt (pt l a).1 b).2, 0) := by
    have := put_is (pt l a).1 b (by omega) (by omega)
    unfold pu at this; rw [if_pos (pt_may h4 a)] at this; exact this
  refine ev_bind hq (ev_some (ev_pos (by simp; omega) (ev_some (ev_pos (by simp; omega) ?_))))
  have hr : Ev (fun k => series_Put.f k l ([] ++ a ++ b)) ((pt (pt l a).1 b).1, (pt l a).2 ++ (pt (pt l a).1 b).2, 0) := by
    have := put_is l ([] ++ a ++ b) (by omega) (by simp; omega)
    unfold pu at this; rw [if_pos h4, List.nil_append, pt_app] at this; exact this
  refine ev_bind hr (ev_pos rfl (ev_pos rfl (ev_pos rfl (ev_bind (same_refl _ (by show (pt (pt l a).1 b).1.length ≤ _; omega)) (ev_pos rfl ?_)))))
  have hw : ((((pt l a).2 ++ (pt (pt l a).1 b).2).length : Int) != wrap64 (((pt l a).2.length : Int) + ((pt (pt l a).1 b).2.length : Int))) = false := by
    simp only [bne_eq_false_iff_eq, List.length_append]; unfold wrap64; omega
  show Ev (fun n => batonlaw22_SeriesParts.j1 n (pt l a).2 (pt (pt l a).1 b).2 ((pt l a).2 ++ (pt (pt l a).1 b).2) ((((pt l a).2 ++ (pt (pt l a).1 b).2).length : Int) != wrap64 (((pt l a).2.length : Int) + ((pt (pt l a).1 b).2.length : Int)))) true
  rw [hw]
  refine ev_step (fun k => rfl) (ev_some (ev_pos (by simp; omega) (ev_some (ev_pos (by simp; omega) ?_))))
  rw [List.nil_append]
  exact parts_loop _ (by simp; omega) _ 0 (Nat.zero_add _)

end Go.Proofs.Ytbedpnklnamnhaa.Pure

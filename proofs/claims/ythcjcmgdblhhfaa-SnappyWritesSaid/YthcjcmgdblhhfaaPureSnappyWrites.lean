import Derived.Test.YthcjcmgdblhhfaaPVx29
import Derived.Test.YthcjcmgdblhhfaaSpecVc
namespace Go.Proofs.Ythcjcmgdblhhfaa.Pure
open Go.RowKit Go.Proofs.Ythcjcmgdblhhfaa.PV Go.Proofs.Ythcjcmgdblhhfaa.SpecVa Go.Proofs.Ythcjcmgdblhhfaa.SpecVb Go.Proofs.Ythcjcmgdblhhfaa.SpecVc Go.Proofs.YthcjcmgdblhhfaaW.PrintWords Go.Proofs.YthcjcmgdblhhfaaW.PrintLast
set_option linter.unusedVariables false

theorem SnappyWrites : batonlaw03_SnappyWrites.Pure := by
  intro l most hl _ _ _
  refine Ev.rounds (g := fun k => batonlaw03_SnappyWrites.f k l most) ?_
  unfold batonlaw03_SnappyWrites.f
  obtain ⟨b, hb, hc⟩ := long_ev l (by simp [maxLen] at hl; omega)
  refine ev_bind hb ?_
  cases b with
  | true => exact ev_pos rfl (ev_bind awake_ev (ev_now _))
  | false =>
    have h := hc rfl
    have h1 : (l.map p35).length ≤ 1000000 := by rw [List.length_map]; omega
    have e1 := expand_ev (l.map p35) most h1
    have e2 := rexpand_ev (l.map p35) most h1
    have e3 := swrite_ev (l.map p35) h1
    have e4 := rwrite_ev (l.map p35) h1
    have e5 := same_ev (l.map p35) (by omega)
    rw [p72_p35] at e2 e4 e5
    exact ev_neg (by simp) (ev_bind (given_ev l h) (ev_bind e1 (ev_bind e2 (ev_bind e3 (ev_bind e4 (ev_pos rfl (ev_pos rfl (ev_pos rfl (ev_pos rfl (ev_bind e5 (ev_pos rfl (ev_bind awake_ev (ev_now _))))))))))))) 
end Go.Proofs.Ythcjcmgdblhhfaa.Pure

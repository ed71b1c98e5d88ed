import Derived.Test.YthcjcmgdblhhfaaSpecU
namespace Go.Proofs.Ythcjcmgdblhhfaa.Pure
open Go.RowKit Go.Proofs.Ythcjcmgdblhhfaa.PU Go.Proofs.Ythcjcmgdblhhfaa.SpecU Go.Proofs.YthcjcmgdblhhfaaW.PrintWords Go.Proofs.YthcjcmgdblhhfaaW.PrintLast
set_option linter.unusedVariables false

theorem SnappyPacks : batonlaw03_SnappyPacks.Pure := by
  intro s p hs hp
  refine Ev.rounds (g := fun k => batonlaw03_SnappyPacks.f k s p) ?_
  unfold batonlaw03_SnappyPacks.f
  by_cases h : (s.size : Int) > 600
  · exact ev_pos h (ev_bind awake_ev (ev_now _))
  · refine ev_neg h ?_
    have hz : s.size ≤ 65536 := by omega
    have hl := parts_len s
    have hm : ∃ m : Int × Int, Ev (fun k => snappy_Match.f k s p) m ∧ Ev (fun k => batonref03_Match.f k s p) m := by
      by_cases h1 : p < 0 ∨ (s.size : Int) ≤ p
      · exact ⟨_, match_out s p h1, rmatch_out s p h1⟩
      · obtain ⟨q, rfl⟩ : ∃ q : Nat, p = (q : Int) := ⟨p.toNat, by omega⟩
        exact ⟨_, match_ev s q (by omega) (by omega), rmatch_ev s q (by omega) (by omega)⟩
    obtain ⟨m, m1, m2⟩ := hm
    refine ev_bind m1 (ev_bind m2 (ev_bind (pack_ev s hz) (ev_bind (rpack_ev s hz) (ev_bind (encode_ev s hz) (ev_bind (rencode_ev s hz) ?_)))))
    exact ev_pos rfl (ev_pos rfl (ev_bind (same_ev (parts s) (by omega)) (ev_pos rfl (ev_pos rfl (ev_pos rfl (ev_pos rfl (ev_bind awake_ev (ev_now _))))))))
end Go.Proofs.Ythcjcmgdblhhfaa.Pure

import Derived.Test.YthcjcmgdblhhfaaPVx37
import Derived.Test.YthcjcmgdblhhfaaSpecVf
namespace Go.Proofs.Ythcjcmgdblhhfaa.Pure
open Go.RowKit Go.Proofs.Ythcjcmgdblhhfaa.PV Go.Proofs.Ythcjcmgdblhhfaa.SpecVa Go.Proofs.Ythcjcmgdblhhfaa.SpecVd Go.Proofs.Ythcjcmgdblhhfaa.SpecVf Go.Proofs.YthcjcmgdblhhfaaW.PrintWords Go.Proofs.YthcjcmgdblhhfaaW.PrintLast
set_option linter.unusedVariables false
theorem each_loop (s : ByteArray) (hs : s.size ≤ 1500) (L : List S35) (hL : L.length ≤ 2000) : ∀ (l pre : List S35) (p : Nat) (b : Bool), L = pre ++ l → PGood s p b l → p ≤ s.size →
    (b = true → 0 < pre.length → (rd_T35 L ((pre.length : Int) - 1)).f0 = true) → Ev (fun k => batonlaw03_SnappyEach.l0 k s L (p : Int) (pre.length : Int)) true := by
  intro l
  induction l with
  | nil =>
    intro pre p b e g hp hb
    refine ev_step (fun k => rfl) ?_
    simp only [batonlaw03_SnappyEach.l0]
    have g' : p = s.size := g
    rw [List.append_nil] at e
    rw [e]
    refine ev_neg (by omega) (ev_pure ?_)
    rw [g']
    simp
  | cons x l ih =>
    intro pre p b e g hp hb
    have hlen : L.length = pre.length + (l.length + 1) := by rw [e, List.length_append, List.length_cons]
    have hx : rd_T35 L (pre.length : Int) = x := by
      unfold rd_T35
      rw [Int.toNat_natCast, e]
      simp [List.getD]
    have e2 : L = (pre ++ [x]) ++ l := by rw [e, List.append_assoc]; rfl
    have hl2 : ((pre ++ [x]).length : Int) = (pre.length : Int) + 1 := by simp
    refine ev_step (fun k => rfl) ?_
    simp only [batonlaw03_SnappyEach.l0]
    rw [hx]
    refine ev_pos (by omega) (ev_pos (by omega) ?_)
    rcases g with ⟨g0, g1, g2, g3, g4, g5, g6, g7⟩ | ⟨g1, g2, g3, g4, g5, g6, g7⟩
    · refine ev_neg (by rw [g1]; simp) ?_
      have hne : ¬ x.f1.toList = ([] : List UInt8) := fun h => by rw [nil_size] at h; omega
      have lit : Ev (fun n => if x.f1.toList = ([] : List UInt8) then some false else if (x.f1.size : Int) > wrap64 ((s.size : Int) - (p : Int)) then some false else if 0 ≤ (p : Int) then (if (p : Int) ≤ wrap64 ((p : Int) + (x.f1.size : Int)) then (if wrap64 ((p : Int) + (x.f1.size : Int)) ≤ (s.size : Int) then (if (s.extract (p : Int).toNat (wrap64 ((p : Int) + (x.f1.size : Int))).toNat).toList = x.f1.toList then batonlaw03_SnappyEach.l0 n s L (wrap64 ((p : Int) + (x.f1.size : Int))) (wrap64 ((pre.length : Int) + 1)) else some false) else none) else none) else none) true := by
        rw [wr (n := (s.size : Int) - (p : Int)) (by omega) (by omega), wr (n := (p : Int) + (x.f1.size : Int)) (by omega) (by omega), wr (n := (pre.length : Int) + 1) (by omega) (by omega)]
        refine ev_neg hne (ev_neg (by omega) (ev_pos (by omega) (ev_pos (by omega) (ev_pos (by omega) (ev_pos ?_ ?_)))))
        · rw [Int.toNat_natCast, show ((p : Int) + (x.f1.size : Int)).toNat = p + x.f1.size from by omega, ← g4]
        · have := ih (pre ++ [x]) (p + x.f1.size) false e2 g7 g3 (fun h => by cases h)
          rw [hl2, show ((p + x.f1.size : Nat) : Int) = (p : Int) + (x.f1.size : Int) from by omega] at this
          exact this
      by_cases h0 : 0 < pre.length
      · refine ev_pos (by omega) ?_
        rw [wr (n := (pre.length : Int) - 1) (by omega) (by omega)]
        exact ev_pos (by omega) (ev_pos (by omega) (ev_pos (hb g0 h0) lit))
      · exact ev_neg (by omega) lit
    · refine ev_pos g1 (ev_bind (match_ev s p g6 (by omega)) ?_)
      have hal := mat_al s p (by omega)
      have hsz := mat_size s p hp
      have h64 := mat_le s p
      simp only [g4, g5]
      refine ev_neg (by omega) (ev_pos trivial (ev_pos trivial (ev_neg (by omega) ?_)))
      rw [wr (n := (s.size : Int) - (p : Int)) (by omega) (by omega), decide_eq_false (by omega)]
      refine ev_step (fun k => rfl) ?_
      simp only [batonlaw03_SnappyEach.j2]
      rw [wr (n := (p : Int) + ((mat s p).2 : Int)) (by omega) (by omega), wr (n := (pre.length : Int) + 1) (by omega) (by omega), wr (n := (p : Int) + ((mat s p).2 : Int) - ((mat s p).1 : Int)) (by omega) (by omega)]
      have next : Ev (fun n => batonlaw03_SnappyEach.l0 n s L ((p : Int) + ((mat s p).2 : Int)) ((pre.length : Int) + 1)) true := by
        have := ih (pre ++ [x]) (p + (mat s p).2) true e2 g7 hsz (fun _ _ => by rw [hl2, show (pre.length : Int) + 1 - 1 = (pre.length : Int) from by omega, hx]; exact g1)
        rw [hl2, show ((p + (mat s p).2 : Nat) : Int) = (p : Int) + ((mat s p).2 : Int) from by omega] at this
        exact this
      refine ev_neg (by simp) ?_
      by_cases c1 : ((mat s p).2 : Int) < 64
      · refine ev_pos c1 ?_
        by_cases c2 : (p : Int) + ((mat s p).2 : Int) < (s.size : Int)
        · refine ev_pos c2 (ev_pos (by omega) (ev_pos (by omega) (ev_pos (by omega) (ev_neg ?_ next))))
          have hst := run_stop (eqAt s (p - (mat s p).1) p) 64 0
          have hr : run (eqAt s (p - (mat s p).1) p) 0 64 = (mat s p).2 := hal.2.2.2.symm
          rw [hr] at hst
          have := hst (by omega)
          unfold eqAt at this
          rw [decide_eq_true (by omega), Bool.true_and] at this
          intro h
          rw [beq_eq_false_iff_ne] at this
          apply this
          rw [show ((p - (mat s p).1 + (mat s p).2 : Nat) : Int) = (p : Int) + ((mat s p).2 : Int) - ((mat s p).1 : Int) from by omega, show ((p + (mat s p).2 : Nat) : Int) = (p : Int) + ((mat s p).2 : Int) from by omega]
          exact h.symm
        · exact ev_neg c2 next
      · exact ev_neg c1 next
theorem SnappyEach : batonlaw03_SnappyEach.Pure := by
  intro s hs
  refine Ev.rounds (g := fun k => batonlaw03_SnappyEach.f k s) ?_
  unfold batonlaw03_SnappyEach.f
  by_cases h : (s.size : Int) > 1500
  · exact ev_pos h (ev_step (fun k => rfl) (by simp only [batonlaw03_SnappyEach.j0]; exact ev_pos (by simp) (ev_bind awake_ev (ev_now _))))
  · refine ev_neg h (ev_bind awake_ev (ev_step (fun k => rfl) ?_))
    simp only [batonlaw03_SnappyEach.j0]
    have hl := parts_len s
    exact ev_neg (by simp) (ev_bind (pack_ev s (by omega)) (ev_pos rfl (each_loop s (by omega) (parts s) (by omega) (parts s) [] 0 true rfl (good_parts s) (by omega) (fun _ h => by simp at h))))
end Go.Proofs.Ythcjcmgdblhhfaa.Pure

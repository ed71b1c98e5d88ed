import Derived.Test.YthcjcmgdblhhfaaSpecSnappyAny
import Derived.Test.YthcjcmgdblhhfaaPVx45
namespace Go.Proofs.Ythcjcmgdblhhfaa.Pure
open Go.RowKit Go.Proofs.Ythcjcmgdblhhfaa.SpecSnappyAny Go.Proofs.Ythcjcmgdblhhfaa.PV Go.Proofs.YthcjcmgdblhhfaaW.PrintWords Go.Proofs.YthcjcmgdblhhfaaW.PrintLast
set_option linter.unusedVariables false
theorem prl_list (b : ByteArray) : ∀ (L acc : List S35) (pre : List Int) (f : Nat), bytesOf b = pre ++ L.flatMap wl → b.size < f + pre.length → (∀ x ∈ L, mayB x = true) → prl b f pre.length acc = (acc ++ L, 0)
  | L, acc, pre, 0, hb, hf, hm => by
    have : b.size = pre.length + (L.flatMap wl).length := by rw [← bytesOf_length, hb, List.length_append]
    omega
  | [], acc, pre, f + 1, hb, hf, hm => by
    have hz : b.size = pre.length := by rw [← bytesOf_length, hb]; simp
    unfold prl
    rw [if_neg (by omega), List.append_nil]
  | x :: L, acc, pre, f + 1, hb, hf, hm => by
    have hz : b.size = pre.length + ((wl x).length + (L.flatMap wl).length) := by rw [← bytesOf_length, hb, List.length_append, List.flatMap_cons, List.length_append]
    have hp := wl_pos x
    have hel := elem_wl b x pre (L.flatMap wl) (hm x (by simp)) (by rw [hb, List.flatMap_cons])
    unfold prl
    rw [if_pos (by omega), hel]
    simp only
    have := prl_list b L (acc ++ [x]) (pre ++ wl x) f (by rw [hb, List.flatMap_cons, List.append_assoc]) (by rw [List.length_append]; omega) (fun y hy => hm y (by simp [hy]))
    rw [List.length_append, List.append_assoc] at this
    exact this
theorem exq_err (most : Int) : ∀ (L : List S35) (X : ByteArray), (exq L X most).2 ≠ 0 → (exq L X most).1 = ⟨#[]⟩
  | [], X, h => by simp [exq] at h
  | x :: L, X, h => by
    unfold exq at h ⊢
    split
    · rfl
    · rename_i h1
      rw [if_neg h1] at h
      split
      · rfl
      · rename_i h2
        rw [if_neg h2] at h
        exact exq_err most L _ h
theorem SnappyAny : batonlaw03_SnappyAny.Pure := by
  intro l hl _ _
  refine Ev.rounds (g := fun k => batonlaw03_SnappyAny.f k l) ?_
  unfold batonlaw03_SnappyAny.f
  obtain ⟨b, hb, hc⟩ := long_ev l (by simp [maxLen] at hl; omega)
  refine ev_bind hb ?_
  cases b with
  | true => exact ev_pos rfl (ev_step (fun k => rfl) (by simp only [batonlaw03_SnappyAny.j0]; exact ev_pos (by simp) (ev_bind awake_ev (ev_now _))))
  | false =>
    have h := hc rfl
    have h1 : (l.map p35).length ≤ 1000000 := by rw [List.length_map]; omega
    refine ev_neg (by simp) (ev_bind awake_ev (ev_step (fun k => rfl) ?_))
    simp only [batonlaw03_SnappyAny.j0]
    refine ev_neg (by simp) (ev_bind (given_ev l h) (ev_bind (expand_ev (l.map p35) 65536 h1) (ev_bind (swrite_ev (l.map p35) h1) ?_)))
    by_cases he : (exq (l.map p35) ⟨#[]⟩ 65536).2 = 0
    · generalize hE : exq (l.map p35) ⟨#[]⟩ 65536 = r at he
      obtain ⟨T, e⟩ := r
      simp only at he
      subst he
      obtain ⟨hT, hm, h2, hbytes⟩ := blk_bytes (l.map p35) T hE
      refine ev_pos rfl (ev_step (fun k => rfl) ?_)
      simp only [batonlaw03_SnappyAny.j1]
      have hsz : (blk (l.map p35)).1.size ≤ 1000000000 := by
        rw [← bytesOf_length, hbytes, List.length_append]
        have hv := vb_len 8 (T.size : Int)
        have : ∀ L : List S35, (∀ x ∈ L, mayB x = true) → (L.flatMap wl).length ≤ 65600 * L.length := by
          intro L
          induction L with
          | nil => intro _; simp
          | cons x L ih =>
            intro hx
            have i := ih (fun y hy => hx y (by simp [hy]))
            have w := wl_len x (hx x (by simp))
            rw [List.flatMap_cons, List.length_append, List.length_cons]
            omega
        have := this _ hm
        rw [List.length_map] at this
        omega
      have d1 := decode_ev (blk (l.map p35)).1 65536 (by omega) (by omega)
      rw [dec_blk (l.map p35) T hE 65536 (by omega)] at d1
      have d2 := parts_ev (blk (l.map p35)).1 (by omega)
      have e2 : prt (blk (l.map p35)).1 = (l.map p35, 0) := by
        unfold prt
        rw [sz_blk _ T hE, ln_blk _ T hE]
        simp only [if_true]
        rw [Int.toNat_natCast]
        exact prl_list (blk (l.map p35)).1 (l.map p35) [] (vb 8 (T.size : Int)) _ hbytes (by omega) hm
      rw [e2] at d2
      have d3 := same_ev (l.map p35) (by omega)
      rw [p72_p35] at d3
      exact ev_neg (by rw [h2]; simp) (ev_bind d1 (ev_bind d2 (ev_pos rfl (ev_pos rfl (ev_pos rfl (ev_bind d3 (ev_now _)))))))
    · refine ev_neg he (ev_step (fun k => rfl) ?_)
      simp only [batonlaw03_SnappyAny.j1]
      have hbl : blk (l.map p35) = (⟨#[]⟩, (exq (l.map p35) ⟨#[]⟩ 65536).2) := by unfold blk; rw [if_neg he]
      rw [hbl, exq_err 65536 _ _ he]
      exact ev_pos (by simp) (ev_pos rfl (ev_pos ((nil_size _).2 rfl) (ev_pure (by rw [(nil_size _).2 rfl]; rfl))))
end Go.Proofs.Ythcjcmgdblhhfaa.Pure

/- SeriesKept is true for every input: what a series had stands ahead, as it was, and behind it just those that were new, for any two rows of samples, whatever memory they lie in. No further condition. -/
import Derived.Test.YtbedpnklnamnhaaPEx
import Derived.Test.YtbedpnklnamnhaaSpecJE
namespace Go.Proofs.Ytbedpnklnamnhaa.Pure
open Go.RowKit Go.Proofs.Ytbedpnklnamnhaa.PE Go.Proofs.Ytbedpnklnamnhaa.SpecE Go.Proofs.Ytbedpnklnamnhaa.SpecJE Go.Proofs.YtbedpnklnamnhaaW.PrintWords Go.Proofs.YtbedpnklnamnhaaW.PrintLast
set_option linter.unusedVariables false

/-- The samples that were new. -/
def fq : List S25 → List Int → List S25
  | s :: m, v :: vs => if v = 1 then s :: fq m vs else fq m vs
  | _, _ => []
theorem pt_fq : ∀ (more l : List S25), (pt l more).1 = l ++ fq more (pt l more).2
  | [], l => by simp [pt, fq]
  | s :: more, l => by
    rw [pt_cons]
    simp only [fq]
    rw [pt_fq more]
    split
    · rw [List.append_assoc]; rfl
    · rfl
theorem fq_cnt : ∀ (m : List S25) (v : List Int), m.length = v.length → (fq m v).length = cnt v 1
  | [], [], _ => rfl
  | [], v :: vs, h => by simp at h
  | s :: m, [], h => by simp at h
  | s :: m, v :: vs, h => by
    have ih := fq_cnt m vs (by simpa using h)
    unfold cnt at ih ⊢
    rw [fq, List.filter_cons]
    by_cases hv : v = 1
    · rw [if_pos hv, if_pos (by simpa using hv), List.length_cons, List.length_cons, ih]
    · rw [if_neg hv, if_neg (by simpa using hv), ih]
theorem pt_vals : ∀ (more l : List S25), ∀ v ∈ (pt l more).2, v = 1 ∨ v = 2 ∨ v = 3 ∨ v = 4
  | [], l => by simp [pt]
  | s :: more, l => by
    rw [pt_cons]
    intro v hv
    rcases List.mem_cons.1 hv with rfl | hv
    · exact jd_cases l s.f0 s.f1
    · exact pt_vals more _ v hv
theorem fq_step (m : List S25) (v : List Int) (i : Nat) (h1 : i < m.length) (h2 : i < v.length) : fq (m.drop i) (v.drop i) = if v.getD i 0 = 1 then el m i :: fq (m.drop (i + 1)) (v.drop (i + 1)) else fq (m.drop (i + 1)) (v.drop (i + 1)) := by
  have e : v.drop i = v.getD i 0 :: v.drop (i + 1) := by
    rw [List.drop_eq_getElem_cons h2]
    simp [List.getD, List.getElem?_eq_getElem h2]
  rw [el_drop m i h1, e, fq]
theorem kept_loop (l more A : List S25) (v : List Int) (F : List S25) (hv : ∀ x ∈ v, x = 1 ∨ x = 2 ∨ x = 3 ∨ x = 4) (hl : v.length = more.length) (hm : more.length ≤ 500)
    (tail : Ev (fun k => batonlaw22_SeriesKept.l0 k l more A v F (v.length : Int)) true) : ∀ (d i : Nat) (acc : List S25), i + d = v.length → acc.length ≤ i → acc ++ fq (more.drop i) (v.drop i) = F →
    Ev (fun k => batonlaw22_SeriesKept.l0 k l more A v acc (i : Int)) true := by
  intro d
  induction d with
  | zero =>
    intro i acc hi ha h
    rw [List.drop_of_length_le (show v.length ≤ i by omega)] at h
    have e : acc = F := by
      rw [← h]
      cases more.drop i <;> simp [fq]
    rw [e, show i = v.length by omega]
    exact tail
  | succ d ih =>
    intro i acc hi ha h
    have hx := hv (v[i]'(by omega)) (List.getElem_mem _)
    have e : v.getD i 0 = v[i]'(by omega) := by simp [List.getD, List.getElem?_eq_getElem (show i < v.length by omega)]
    rw [fq_step more v i (by omega) (by omega), e] at h
    have j3 : ∀ z : Bool, z = false → Ev (fun k => batonlaw22_SeriesKept.j3 k l more A v acc (i : Int) z) true := by
      intro z hz
      subst hz
      refine ev_step (fun k => rfl) ?_
      simp only [batonlaw22_SeriesKept.j3]
      rw [rdi_nat, e, rd_nat, wrap_nat (show i < v.length by omega) (by omega)]
      refine ev_neg (by simp) (ev_pos (by omega) (ev_pos (by omega) ?_))
      by_cases h1 : v[i]'(by omega) = 1
      · rw [if_pos h1] at h
        refine ev_pos h1 (ev_pos (by omega) (ev_pos (by omega) ?_))
        exact ih (i + 1) (acc ++ [el more i]) (by omega) (by simp; omega) (by rw [← h]; simp)
      · rw [if_neg h1] at h
        exact ev_neg h1 (ih (i + 1) acc (by omega) (by omega) h)
    refine ev_step (fun k => rfl) (ev_pos (by omega) (ev_pos (by omega) ?_))
    rw [rdi_nat, e]
    generalize v[i]'(by omega) = x at hx
    refine ev_neg (by omega) (j3 _ ?_)
    rw [decide_eq_false]
    omega
theorem SeriesKept : batonlaw22_SeriesKept.Pure := by
  intro l more _ _ _ _ _ _
  refine Ev.rounds (g := fun k => batonlaw22_SeriesKept.f k l more) ?_
  have out : Ev (fun k => batonlaw22_SeriesKept.j0 k l more true) true := ev_step (fun k => rfl) (ev_bind awake_is (ev_now _))
  unfold batonlaw22_SeriesKept.f
  by_cases h1 : (l.length : Int) > 500
  · exact ev_pos h1 out
  refine ev_neg h1 ?_
  by_cases h2 : (more.length : Int) > 500
  · exact ev_pos h2 out
  refine ev_neg h2 (ev_bind (may_is l (by omega)) ?_)
  by_cases ml : may l = true
  case neg => exact ev_neg ml out
  refine ev_pos ml (ev_bind awake_is (ev_step (fun k => rfl) ?_))
  simp only [batonlaw22_SeriesKept.j0]
  have hlen := pt_len more l
  have mA := pt_may ml more
  have hA := pt_fq more l
  have hvals := pt_vals more l
  have hcnt := fq_cnt more (pt l more).2 hlen.1.symm
  have hput : Ev (fun k => series_Put.f k l more) ((pt l more).1, (pt l more).2, 0) := by
    have := put_is l more (by omega) (by omega)
    unfold pu at this
    rwa [if_pos ml] at this
  generalize (pt l more).2 = v at *
  generalize (pt l more).1 = A at *
  generalize hF : fq more v = F at *
  subst hA
  have uA := (ups_up (l ++ F)).1 (may_ups mA)
  obtain ⟨ul, uF, hlF⟩ := List.pairwise_append.1 uA
  have mF : may F = true := may_mk ((ups_up F).2 uF) (fun x hx => mayT_of mA x (by simp [hx]))
  have hAl : (l ++ F).length = l.length + F.length := List.length_append
  have ej : jn l F = l ++ F := up_ext _ _ (jn_up F l ul) uA (fun z => by
    rw [jn_mem F l ul uF z, List.mem_append]
    constructor
    · rintro (h | ⟨h, _⟩)
      · exact Or.inl h
      · exact Or.inr h
    · rintro (h | h)
      · exact Or.inl h
      · exact Or.inr ⟨h, fun y hy => by have := hlF y hy z h; omega⟩)
  have pj := join_is l F (by omega) (by omega) ml mF
  rw [ej] at pj
  have tail : Ev (fun k => batonlaw22_SeriesKept.l0 k l more (l ++ F) v F (v.length : Int)) true := by
    refine ev_step (fun k => rfl) (ev_neg (by omega) ?_)
    have e1 : (l ++ F).drop ((l.length : Int) : Int).toNat = F := by rw [Int.toNat_natCast, List.drop_left]
    rw [e1]
    have hc : series_Count.f v = some ((cnt v 0 : Int), (cnt v 1 : Int), (cnt v 2 : Int), (cnt v 3 : Int), (cnt v 4 : Int)) := by
      unfold series_Count.f
      rw [if_pos (by omega), if_pos]
      unfold cntAll
      rw [List.all_eq_true]
      intro x hx
      have := hvals x hx
      simp
      omega
    rw [hc]
    refine ev_bind pj (ev_pos (by omega) (ev_pos (by omega) (ev_bind (same_refl F (by omega)) (ev_pos rfl (ev_pos rfl (ev_bind (same_refl (l ++ F) (by omega)) (ev_pos rfl (ev_some (ev_pure ?_)))))))))
    rw [← hcnt]
    simp
  refine ev_neg (by decide) (ev_bind hput (ev_pos rfl (ev_pos (by show (v.length : Int) = _; omega) (ev_neg (by show ¬ (((l ++ F).length : Int) < _); omega) (ev_pos (by omega) (ev_pos (by show (l.length : Int) ≤ ((l ++ F).length : Int); omega) ?_))))))
  have e2 : (l ++ F).take ((l.length : Int) : Int).toNat = l := by rw [Int.toNat_natCast, List.take_left]
  rw [e2]
  refine ev_bind (same_refl l (by omega)) (ev_pos rfl (ev_bind (may_is (l ++ F) (by omega)) (ev_step (fun k => rfl) ?_)))
  rw [mA]
  simp only [batonlaw22_SeriesKept.j1]
  refine ev_neg (by decide) ?_
  exact kept_loop l more (l ++ F) v F hvals hlen.1 (by omega) tail v.length 0 [] (by omega) (by simp) (by simpa using hF)
end Go.Proofs.Ytbedpnklnamnhaa.Pure

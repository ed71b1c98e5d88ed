/- SeriesJoins is true for every input: what two series joined are, for any two rows of samples and any two times, whatever memory they lie in. No further condition. -/
import Derived.Test.YtbedpnklnamnhaaPDx
import Derived.Test.YtbedpnklnamnhaaSpecJD
namespace Go.Proofs.Ytbedpnklnamnhaa.Pure
open Go.RowKit Go.Proofs.Ytbedpnklnamnhaa.PD Go.Proofs.Ytbedpnklnamnhaa.SpecD Go.Proofs.Ytbedpnklnamnhaa.SpecJD Go.Proofs.YtbedpnklnamnhaaW.PrintWords Go.Proofs.YtbedpnklnamnhaaW.PrintLast
set_option linter.unusedVariables false

/-- The samples between two times. -/
def bet (l : List S25) (f t : Int) : List S25 := (l.take (max (lb l f) (lb l t))).drop (lb l f)
theorem between_is (l : List S25) (f t : Int) (hl : l.length ≤ 1000000) (h : may l = true) : Ev (fun k => series_Between.f k l f t) (bet l f t, 0) := by
  have hu := may_ups h
  have h1 := lb_le l f
  have h2 := lb_le l t
  have hp : ∀ x, series_place.f l x = some ((lb l x : Int), hit l x) := by
    intro x
    unfold series_place.f
    rw [if_pos (by omega), if_pos hu]
  have hm : mx (lb l f : Int) (lb l t : Int) = ((max (lb l f) (lb l t) : Nat) : Int) := by unfold mx; omega
  have hc : slices_Clone.f (bet l f t) = some (bet l f t) := by
    unfold slices_Clone.f
    rw [if_pos]
    unfold bet
    simp only [List.length_drop, List.length_take]
    omega
  unfold series_Between.f
  refine ev_bind (may_is l (by omega)) (ev_pos h ?_)
  simp only [hp, Option.bind_some, hm]
  refine ev_pos (by omega) (ev_pos (by omega) (ev_pos (by omega) ?_))
  rw [Int.toNat_natCast, Int.toNat_natCast]
  show Ev (fun n => (slices_Clone.f (bet l f t)).bind fun t144 => some (t144, (0 : Int))) _
  rw [hc]
  exact ev_some (ev_now _)
theorem jd_mem {l : List S25} (h : may l = true) {x : S25} (hx : x ∈ l) (b : Int) : jd l x.f0 b = if x.f1 = b then 2 else 3 := by
  obtain ⟨j, hj, rfl⟩ := mem_el hx
  exact jd_at h hj b
theorem loop0 (a b all : List S25) (ha : a.length ≤ 300) (hall : may all = true) (hl : all.length ≤ 1000000) (n : Int) (hsub : ∀ x ∈ a, x ∈ all) (next : Ev (fun k => batonlaw22_SeriesJoins.l1 k a b all n 0) true) : ∀ (d i : Nat), i + d = a.length →
    Ev (fun k => batonlaw22_SeriesJoins.l0 k a b all n (i : Int)) true := by
  intro d
  induction d with
  | zero => intro i hi; exact ev_step (fun k => rfl) (ev_neg (by omega) next)
  | succ d ih =>
    intro i hi
    refine ev_step (fun k => rfl) (ev_pos (by omega) (ev_pos (by omega) ?_))
    rw [rd_nat, wrap_nat (show i < a.length by omega) (by omega)]
    have hj := judged_is all (el a i).f0 (el a i).f1 2 hl hall
    rw [jd_mem hall (hsub _ (el_mem (show i < a.length by omega))), if_pos rfl] at hj
    exact ev_bind hj (ev_pos rfl (ih (i + 1) (by omega)))
theorem any_drop (a : List S25) (t : Int) (i : Nat) (h : i < a.length) : (a.drop i).any (fun y => y.f0 == t) = ((el a i).f0 == t || (a.drop (i + 1)).any (fun y => y.f0 == t)) := by
  rw [el_drop a i h, List.any_cons]
theorem loop2 (a b all : List S25) (ha : a.length ≤ 300) (hb : b.length ≤ 300) (n : Int) (j : Nat) (hj : j < b.length) (v : Int)
    (h1 : a.any (fun y => y.f0 == (el b j).f0) = true → Ev (fun k => batonlaw22_SeriesJoins.l1 k a b all n ((j + 1 : Nat) : Int)) true)
    (h2 : a.any (fun y => y.f0 == (el b j).f0) = false → v = 2 ∧ Ev (fun k => batonlaw22_SeriesJoins.l1 k a b all (wrap64 (n + 1)) ((j + 1 : Nat) : Int)) true) :
    ∀ (d i : Nat) (its : Bool), i + d = a.length → (its || (a.drop i).any (fun y => y.f0 == (el b j).f0)) = a.any (fun y => y.f0 == (el b j).f0) → Ev (fun k => batonlaw22_SeriesJoins.l2 k a b all n (j : Int) v its (i : Int)) true := by
  intro d
  induction d with
  | zero =>
    intro i its hi hits
    rw [List.drop_of_length_le (by omega)] at hits
    simp only [List.any_nil, Bool.or_false] at hits
    refine ev_step (fun k => rfl) (ev_neg (by omega) ?_)
    rw [wrap_nat hj (by omega)]
    cases its with
    | true => exact ev_pos rfl (h1 hits.symm)
    | false =>
      obtain ⟨e, h⟩ := h2 hits.symm
      exact ev_neg (by simp) (ev_pos e h)
  | succ d ih =>
    intro i its hi hits
    refine ev_step (fun k => rfl) (ev_pos (by omega) ?_)
    rw [wrap_nat (show i < a.length by omega) (by omega)]
    rw [any_drop a _ i (by omega)] at hits
    cases its with
    | true => exact ev_pos rfl (ih (i + 1) true (by omega) (by rw [← hits]; simp))
    | false =>
      refine ev_neg (by simp) (ev_pos (by omega) (ev_pos (by omega) (ev_pos (by omega) ?_)))
      rw [rd_nat, rd_nat]
      exact ih (i + 1) _ (by omega) (by rw [← hits]; simp)
theorem fr_drop (a b : List S25) (j : Nat) (h : j < b.length) : fr a (b.drop j) = (if a.any (fun y => y.f0 == (el b j).f0) = true then 0 else 1) + fr a (b.drop (j + 1)) := by
  rw [el_drop b j h, fr]
theorem fr_le (a : List S25) : ∀ b : List S25, fr a b ≤ b.length
  | [] => Nat.le_refl _
  | s :: b => by
    have := fr_le a b
    rw [fr, List.length_cons]
    split <;> omega
theorem loop1 (a b : List S25) (ha : a.length ≤ 300) (hb : b.length ≤ 300) (ma : may a = true) (mb : may b = true) : ∀ (d j : Nat) (n : Nat), j + d = b.length → n + fr a (b.drop j) = (jn a b).length →
    Ev (fun k => batonlaw22_SeriesJoins.l1 k a b (jn a b) (n : Int) (j : Int)) true := by
  have ua := (ups_up a).1 (may_ups ma)
  have ub := (ups_up b).1 (may_ups mb)
  have mall := jn_may ma mb
  have hlen := jn_len b a ua ub
  have hfr := fr_le a b
  intro d
  induction d with
  | zero =>
    intro j n hj hn
    rw [List.drop_of_length_le (by omega), fr] at hn
    refine ev_step (fun k => rfl) (ev_neg (by omega) (ev_pure ?_))
    rw [← hn]
    simp
  | succ d ih =>
    intro j n hj hn
    have hjb : j < b.length := by omega
    have hmem := el_mem hjb
    rw [fr_drop a b j hjb] at hn
    have hJ : Ev (fun k => series_Judge.f k (jn a b) (el b j).f0 (el b j).f1) (jd (jn a b) (el b j).f0 (el b j).f1, 0) := by
      have := Judge_is (jn a b) (el b j).f0 (el b j).f1 (by omega)
      unfold ju at this
      rwa [if_pos mall] at this
    have hv : (jd (jn a b) (el b j).f0 (el b j).f1 = 2 ∨ jd (jn a b) (el b j).f0 (el b j).f1 = 3) ∧ (a.any (fun y => y.f0 == (el b j).f0) = false → jd (jn a b) (el b j).f0 (el b j).f1 = 2) := by
      by_cases hany : a.any (fun y => y.f0 == (el b j).f0) = true
      · obtain ⟨y, hy, he⟩ := List.any_eq_true.1 hany
        have he' : y.f0 = (el b j).f0 := by simpa using he
        have := jd_mem mall ((jn_mem b a ua ub y).2 (Or.inl hy)) (el b j).f1
        rw [he'] at this
        rw [this]
        refine ⟨?_, fun h => by rw [hany] at h; cases h⟩
        split
        · exact Or.inl rfl
        · exact Or.inr rfl
      · have hn2 : ∀ y ∈ a, y.f0 ≠ (el b j).f0 := fun y hy e => hany (List.any_eq_true.2 ⟨y, hy, by simpa using e⟩)
        have := jd_mem mall ((jn_mem b a ua ub (el b j)).2 (Or.inr ⟨hmem, hn2⟩)) (el b j).f1
        rw [if_pos rfl] at this
        exact ⟨Or.inl this, fun _ => this⟩
    refine ev_step (fun k => rfl) (ev_pos (by omega) (ev_pos (by omega) ?_))
    rw [rd_nat]
    refine ev_bind hJ (ev_pos rfl ?_)
    have go : Ev (fun k => batonlaw22_SeriesJoins.l2 k a b (jn a b) (n : Int) (j : Int) (jd (jn a b) (el b j).f0 (el b j).f1) false ((0 : Nat) : Int)) true := by
      refine loop2 a b (jn a b) ha hb n j hjb _ (fun h => ?_) (fun h => ⟨hv.2 h, ?_⟩) a.length 0 false (by omega) (by simp)
      · rw [if_pos h] at hn
        exact ih (j + 1) n (by omega) (by omega)
      · rw [if_neg (by rw [h]; simp)] at hn
        rw [show wrap64 ((n : Int) + 1) = ((n + 1 : Nat) : Int) from by unfold wrap64; omega]
        exact ih (j + 1) (n + 1) (by omega) (by omega)
    have j4 : ∀ z : Bool, z = false → Ev (fun k => batonlaw22_SeriesJoins.j4 k a b (jn a b) (n : Int) (j : Int) (jd (jn a b) (el b j).f0 (el b j).f1) z) true := by
      intro z hz
      subst hz
      refine ev_step (fun k => rfl) ?_
      simp only [batonlaw22_SeriesJoins.j4]
      exact ev_neg (by simp) go
    by_cases h2 : jd (jn a b) (el b j).f0 (el b j).f1 = 2
    · exact ev_pos h2 (j4 false rfl)
    · exact ev_neg h2 (j4 _ (by rcases hv.1 with e | e; exact absurd e h2; simp [e]))
theorem bet_sub (l : List S25) (f t : Int) : (bet l f t).Sublist l := (List.drop_sublist _ _).trans (List.take_sublist _ _)
theorem SeriesJoins : batonlaw22_SeriesJoins.Pure := by
  intro a b f t _ _ _ _ _ _ _ _
  refine Ev.rounds (g := fun k => batonlaw22_SeriesJoins.f k a b f t) ?_
  have out : Ev (fun k => batonlaw22_SeriesJoins.j0 k a b f t true) true := ev_step (fun k => rfl) (ev_bind awake_is (ev_now _))
  unfold batonlaw22_SeriesJoins.f
  by_cases h1 : (a.length : Int) > 300
  · exact ev_pos h1 out
  refine ev_neg h1 ?_
  by_cases h2 : (b.length : Int) > 300
  · exact ev_pos h2 out
  refine ev_neg h2 (ev_bind (may_is a (by omega)) ?_)
  by_cases ma : may a = true
  case neg => exact ev_neg ma out
  refine ev_pos ma (ev_bind (may_is b (by omega)) ?_)
  by_cases mb : may b = true
  case neg => exact ev_neg mb out
  refine ev_pos mb (ev_bind awake_is (ev_step (fun k => rfl) ?_))
  simp only [batonlaw22_SeriesJoins.j0]
  have ua := (ups_up a).1 (may_ups ma)
  have ub := (ups_up b).1 (may_ups mb)
  have mn : may ([] : List S25) = true := rfl
  have un : Up ([] : List S25) := List.Pairwise.nil
  have hps := bet_sub a f t
  have up : Up (bet a f t) := ua.sublist hps
  have mp : may (bet a f t) = true := may_mk ((ups_up _).2 up) (fun x hx => mayT_of ma x (hps.subset hx))
  have hpl := hps.length_le
  have e2 : jn [] a = a := up_ext _ _ (jn_up a [] un) ua (fun z => by rw [jn_mem a [] un ua z]; simp)
  have e3 : jn a (bet a f t) = a := up_ext _ _ (jn_up _ a ua) ua (fun z => by
    rw [jn_mem _ a ua up z]
    constructor
    · rintro (h | ⟨h, _⟩)
      · exact h
      · exact hps.subset h
    · exact fun h => Or.inl h)
  have e4 : jn (bet a f t) a = a := up_ext _ _ (jn_up a _ up) ua (fun z => by
    rw [jn_mem a _ up ua z]
    constructor
    · rintro (h | ⟨h, _⟩)
      · exact hps.subset h
      · exact h
    · intro h
      by_cases hz : z ∈ bet a f t
      · exact Or.inl hz
      · refine Or.inr ⟨h, fun y hy e => hz ?_⟩
        rw [← up_inj ua (hps.subset hy) h e]
        exact hy)
  have p1 := join_is a [] (by omega) (by simp) ma mn
  have p2 := join_is [] a (by simp) (by omega) mn ma
  have p3 := between_is a f t (by omega) ma
  have p4 := join_is a (bet a f t) (by omega) (by omega) ma mp
  have p5 := join_is (bet a f t) a (by omega) (by omega) mp ma
  have p6 := join_is a b (by omega) (by omega) ma mb
  rw [e2] at p2
  rw [e3] at p4
  rw [e4] at p5
  have hlen := jn_len b a ua ub
  have hfr := fr_le a b
  have sr := same_refl a (by omega)
  refine ev_neg (by decide) (ev_bind p1 (ev_bind p2 (ev_bind p3 (ev_bind p4 (ev_bind p5 (ev_pos rfl (ev_pos rfl (ev_pos rfl (ev_pos rfl (ev_pos rfl (ev_bind sr (ev_pos rfl (ev_bind sr (ev_pos rfl (ev_bind sr (ev_pos rfl (ev_bind sr (ev_step (fun k => rfl) ?_))))))))))))))))))
  simp only [batonlaw22_SeriesJoins.j1]
  refine ev_neg (by decide) (ev_bind p6 (ev_pos rfl (ev_bind (may_is _ (by show (jn a b).length ≤ _; omega)) (ev_pos (jn_may ma mb) ?_))))
  exact loop0 a b (jn a b) (by omega) (jn_may ma mb) (by omega) _ (fun x hx => (jn_mem b a ua ub x).2 (Or.inl hx)) (loop1 a b (by omega) (by omega) ma mb b.length 0 a.length (by omega) (by rw [List.drop_zero]; omega)) a.length 0 (by omega)
end Go.Proofs.Ytbedpnklnamnhaa.Pure

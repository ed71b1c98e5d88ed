/- Plain facts about two series joined: what stands in the join, and how much it is. No conditions. -/
import Derived.Test.YtbedpnklnamnhaaDoorSpecF
import Derived.Test.YtbedpnklnamnhaaDoorPFx16
namespace Go.Proofs.YtbedpnklnamnhaaDoor.SpecJF
open Go.RowKit Go.Proofs.YtbedpnklnamnhaaDoor.PF Go.Proofs.YtbedpnklnamnhaaDoor.SpecF Go.Proofs.YtbedpnklnamnhaaDoorW.PrintWords Go.Proofs.YtbedpnklnamnhaaDoorW.PrintLast
set_option linter.unusedVariables false
abbrev Up (l : List S40) : Prop := l.Pairwise (fun x y => x.f0 < y.f0)
theorem ups_up : ∀ l : List S40, ups l = true ↔ Up l
  | [] => by simp [ups]
  | [a] => by simp [ups]
  | a :: b :: r => by
    have ih := ups_up (b :: r)
    constructor
    · intro h
      have h1 : a.f0 < b.f0 := by simp [ups] at h; exact h.1
      have h2 : Up (b :: r) := ih.1 (ups_tail h)
      refine List.Pairwise.cons (fun y hy => ?_) h2
      rcases List.mem_cons.1 hy with rfl | hy
      · exact h1
      · have := (List.pairwise_cons.1 h2).1 y hy
        omega
    · intro h
      obtain ⟨h1, h2⟩ := List.pairwise_cons.1 h
      have := ih.2 h2
      have h3 := h1 b (by simp)
      simp [ups, h3, this]
/-- A sample put in its place, if its time is not there. -/
def insS (l : List S40) (s : S40) : List S40 := if hit l s.f0 = true then l else l.take (lb l s.f0) ++ [s] ++ l.drop (lb l s.f0)
def jn (a b : List S40) : List S40 := b.foldl insS a
theorem lb_le (l : List S40) (t : Int) : lb l t ≤ l.length := by unfold lb; exact (List.takeWhile_sublist _).length_le
theorem take_lb : ∀ (l : List S40) (t : Int), l.take (lb l t) = l.takeWhile (fun s => decide (s.f0 < t)) ∧ l.drop (lb l t) = l.dropWhile (fun s => decide (s.f0 < t))
  | [], t => by simp [lb]
  | a :: l, t => by
    have ih := take_lb l t
    unfold lb at ih ⊢
    by_cases h : a.f0 < t
    · rw [List.takeWhile_cons, List.dropWhile_cons, if_pos (by simpa using h), if_pos (by simpa using h)]
      simp [ih.1, ih.2]
    · rw [List.takeWhile_cons, List.dropWhile_cons, if_neg (by simpa using h), if_neg (by simpa using h)]
      simp
theorem low_lt (l : List S40) (t : Int) : ∀ x ∈ l.take (lb l t), x.f0 < t := by
  intro x hx
  rw [(take_lb l t).1] at hx
  have : ∀ l : List S40, ∀ x ∈ l.takeWhile (fun s => decide (s.f0 < t)), x.f0 < t := by
    intro l
    induction l with
    | nil => intro x hx; simp at hx
    | cons a l ih =>
      intro x hx
      rw [List.takeWhile_cons] at hx
      by_cases h : a.f0 < t
      · rw [if_pos (by simpa using h)] at hx
        rcases List.mem_cons.1 hx with rfl | hx
        · exact h
        · exact ih x hx
      · rw [if_neg (by simpa using h)] at hx
        simp at hx
  exact this l x hx
theorem high_ge : ∀ (l : List S40) (t : Int), Up l → ∀ x ∈ l.drop (lb l t), t ≤ x.f0 := by
  intro l t hu x hx
  rw [(take_lb l t).2] at hx
  induction l with
  | nil => simp at hx
  | cons a l ih =>
    rw [List.dropWhile_cons] at hx
    by_cases h : a.f0 < t
    · rw [if_pos (by simpa using h)] at hx
      exact ih (List.pairwise_cons.1 hu).2 hx
    · rw [if_neg (by simpa using h)] at hx
      rcases List.mem_cons.1 hx with rfl | hx
      · omega
      · have := (List.pairwise_cons.1 hu).1 x hx
        omega
theorem hit_iff (l : List S40) (t : Int) (hu : Up l) : hit l t = true ↔ ∃ x ∈ l, x.f0 = t := by
  unfold hit
  simp only [Bool.and_eq_true, decide_eq_true_eq, beq_iff_eq]
  constructor
  · rintro ⟨h1, h2⟩
    exact ⟨el l (lb l t), el_mem h1, h2⟩
  · rintro ⟨x, hx, rfl⟩
    have hx2 : x ∈ l.drop (lb l x.f0) := by
      have : x ∈ l.take (lb l x.f0) ++ l.drop (lb l x.f0) := by rw [List.take_append_drop]; exact hx
      rcases List.mem_append.1 this with h | h
      · have := low_lt l x.f0 x h
        omega
      · exact h
    have hlt : lb l x.f0 < l.length := by
      by_cases h : lb l x.f0 < l.length
      · exact h
      · rw [List.drop_of_length_le (by omega)] at hx2
        simp at hx2
    refine ⟨hlt, ?_⟩
    rw [el_drop l _ hlt] at hx2
    have hge := high_ge l x.f0 hu (el l (lb l x.f0)) (by rw [el_drop l _ hlt]; simp)
    rcases List.mem_cons.1 hx2 with h | h
    · exact (congrArg S40.f0 h).symm
    · obtain ⟨q, hq, he⟩ := List.mem_iff_getElem.1 h
      have hq2 : lb l x.f0 + 1 + q < l.length := by simp at hq; omega
      have h3 := ups_el ((ups_up l).2 hu) (lb l x.f0) (lb l x.f0 + 1 + q) (by omega) hq2
      have h4 : el l (lb l x.f0 + 1 + q) = l[lb l x.f0 + 1 + q]'hq2 := by unfold el; simp [List.getD, List.getElem?_eq_getElem hq2]
      have h5 : x = l[lb l x.f0 + 1 + q]'hq2 := he.symm.trans List.getElem_drop
      have h6 := congrArg S40.f0 (h4.trans h5.symm)
      show (el l (lb l x.f0)).f0 = x.f0
      omega
theorem insS_mem (l : List S40) (s : S40) (hu : Up l) (z : S40) : z ∈ insS l s ↔ z ∈ l ∨ (z = s ∧ ∀ y ∈ l, y.f0 ≠ s.f0) := by
  unfold insS
  by_cases h : hit l s.f0 = true
  · rw [if_pos h]
    obtain ⟨x, hx, he⟩ := (hit_iff l s.f0 hu).1 h
    constructor
    · exact fun hz => Or.inl hz
    · rintro (hz | ⟨_, hn⟩)
      · exact hz
      · exact absurd he (hn x hx)
  · rw [if_neg h]
    have hn : ∀ y ∈ l, y.f0 ≠ s.f0 := fun y hy e => h ((hit_iff l s.f0 hu).2 ⟨y, hy, e⟩)
    have hs : z ∈ l ↔ z ∈ l.take (lb l s.f0) ∨ z ∈ l.drop (lb l s.f0) := by rw [← List.mem_append, List.take_append_drop]
    rw [List.mem_append, List.mem_append, List.mem_singleton, hs]
    constructor
    · rintro ((h1 | h1) | h1)
      · exact Or.inl (Or.inl h1)
      · exact Or.inr ⟨h1, hn⟩
      · exact Or.inl (Or.inr h1)
    · rintro ((h1 | h1) | ⟨h1, _⟩)
      · exact Or.inl (Or.inl h1)
      · exact Or.inr h1
      · exact Or.inl (Or.inr h1)
theorem insS_up (l : List S40) (s : S40) (hu : Up l) : Up (insS l s) := by
  unfold insS
  by_cases h : hit l s.f0 = true
  · rw [if_pos h]; exact hu
  · rw [if_neg h]
    have hn : ∀ y ∈ l, y.f0 ≠ s.f0 := fun y hy e => h ((hit_iff l s.f0 hu).2 ⟨y, hy, e⟩)
    have h1 := low_lt l s.f0
    have h2 := high_ge l s.f0 hu
    have hsp : Up (l.take (lb l s.f0) ++ l.drop (lb l s.f0)) := by rw [List.take_append_drop]; exact hu
    obtain ⟨a1, a2, a3⟩ := List.pairwise_append.1 hsp
    refine List.pairwise_append.2 ⟨List.pairwise_append.2 ⟨a1, List.pairwise_singleton _ _, fun x hx y hy => ?_⟩, a2, fun x hx y hy => ?_⟩
    · rw [List.mem_singleton.1 hy]; exact h1 x hx
    · rcases List.mem_append.1 hx with hx | hx
      · exact a3 x hx y hy
      · rw [List.mem_singleton.1 hx]
        have := h2 y hy
        have := hn y (List.mem_of_mem_drop hy)
        omega
theorem insS_len (l : List S40) (s : S40) (hu : Up l) : (insS l s).length = l.length + (if l.any (fun y => y.f0 == s.f0) = true then 0 else 1) := by
  have hh : hit l s.f0 = true ↔ l.any (fun y => y.f0 == s.f0) = true := by
    rw [hit_iff l s.f0 hu, List.any_eq_true]
    simp
  unfold insS
  by_cases h : hit l s.f0 = true
  · rw [if_pos h, if_pos (hh.1 h)]; rfl
  · rw [if_neg h, if_neg (fun e => h (hh.2 e))]
    have := lb_le l s.f0
    simp only [List.length_append, List.length_take, List.length_drop, List.length_singleton]
    omega
theorem insS_le (l : List S40) (s : S40) : (insS l s).length ≤ l.length + 1 := by
  unfold insS
  split
  · omega
  · have := lb_le l s.f0
    simp only [List.length_append, List.length_take, List.length_drop, List.length_singleton]
    omega
theorem jn_up : ∀ (b a : List S40), Up a → Up (jn a b)
  | [], a, h => h
  | s :: b, a, h => jn_up b (insS a s) (insS_up a s h)
theorem jn_mem : ∀ (b a : List S40), Up a → Up b → ∀ z, z ∈ jn a b ↔ z ∈ a ∨ (z ∈ b ∧ ∀ y ∈ a, y.f0 ≠ z.f0)
  | [], a, ha, hb, z => by simp [jn]
  | s :: b, a, ha, hb, z => by
    obtain ⟨hb1, hb2⟩ := List.pairwise_cons.1 hb
    have ih := jn_mem b (insS a s) (insS_up a s ha) hb2 z
    show z ∈ jn (insS a s) b ↔ _
    rw [ih, insS_mem a s ha z]
    constructor
    · rintro ((h | ⟨rfl, h⟩) | ⟨h1, h2⟩)
      · exact Or.inl h
      · exact Or.inr ⟨by simp, h⟩
      · exact Or.inr ⟨by simp [h1], fun y hy => h2 y ((insS_mem a s ha y).2 (Or.inl hy))⟩
    · rintro (h | ⟨h1, h2⟩)
      · exact Or.inl (Or.inl h)
      · rcases List.mem_cons.1 h1 with e | h3
        · exact Or.inl (Or.inr ⟨e, by rw [← e]; exact h2⟩)
        · refine Or.inr ⟨h3, fun y hy => ?_⟩
          rcases (insS_mem a s ha y).1 hy with hy | ⟨e, _⟩
          · exact h2 y hy
          · have := hb1 z h3
            rw [e]
            omega
/-- How many of b's samples have a time that a has not. -/
def fr (a : List S40) : List S40 → Nat
  | [] => 0
  | s :: b => (if a.any (fun y => y.f0 == s.f0) = true then 0 else 1) + fr a b
theorem fr_ins (a : List S40) (s : S40) (ha : Up a) : ∀ b : List S40, (∀ z ∈ b, s.f0 < z.f0) → fr (insS a s) b = fr a b
  | [], h => rfl
  | x :: b, h => by
    have hx := h x (by simp)
    have e : (insS a s).any (fun y => y.f0 == x.f0) = a.any (fun y => y.f0 == x.f0) := by
      rw [Bool.eq_iff_iff, List.any_eq_true, List.any_eq_true]
      constructor
      · rintro ⟨y, hy, he⟩
        rcases (insS_mem a s ha y).1 hy with hy | ⟨rfl, _⟩
        · exact ⟨y, hy, he⟩
        · simp at he; omega
      · rintro ⟨y, hy, he⟩
        exact ⟨y, (insS_mem a s ha y).2 (Or.inl hy), he⟩
    rw [fr, fr, e, fr_ins a s ha b (fun z hz => h z (by simp [hz]))]
theorem jn_len : ∀ (b a : List S40), Up a → Up b → (jn a b).length = a.length + fr a b
  | [], a, ha, hb => rfl
  | s :: b, a, ha, hb => by
    obtain ⟨hb1, hb2⟩ := List.pairwise_cons.1 hb
    show (jn (insS a s) b).length = _
    rw [jn_len b (insS a s) (insS_up a s ha) hb2, insS_len a s ha, fr_ins a s ha b hb1, fr]
    omega
theorem up_ext : ∀ (a b : List S40), Up a → Up b → (∀ z, z ∈ a ↔ z ∈ b) → a = b
  | [], [], _, _, _ => rfl
  | [], y :: b, _, _, h => by have := (h y).2 (by simp); simp at this
  | x :: a, [], _, _, h => by have := (h x).1 (by simp); simp at this
  | x :: a, y :: b, ha, hb, h => by
    obtain ⟨a1, a2⟩ := List.pairwise_cons.1 ha
    obtain ⟨b1, b2⟩ := List.pairwise_cons.1 hb
    have e : x = y := by
      rcases List.mem_cons.1 ((h x).1 (by simp)) with e | hx
      · exact e
      · rcases List.mem_cons.1 ((h y).2 (by simp)) with e | hy
        · exact e.symm
        · have := b1 x hx
          have := a1 y hy
          omega
    subst e
    congr 1
    refine up_ext a b a2 b2 (fun z => ?_)
    constructor
    · intro hz
      rcases List.mem_cons.1 ((h z).1 (by simp [hz])) with e | hz2
      · have := a1 z hz; rw [e] at this; omega
      · exact hz2
    · intro hz
      rcases List.mem_cons.1 ((h z).2 (by simp [hz])) with e | hz2
      · have := b1 z hz; rw [e] at this; omega
      · exact hz2
theorem up_inj : ∀ {a : List S40}, Up a → ∀ {x y : S40}, x ∈ a → y ∈ a → x.f0 = y.f0 → x = y
  | [], _, x, y, hx, _, _ => by simp at hx
  | z :: a, ha, x, y, hx, hy, e => by
    obtain ⟨a1, a2⟩ := List.pairwise_cons.1 ha
    rcases List.mem_cons.1 hx with ex | hx2
    · rcases List.mem_cons.1 hy with ey | hy2
      · rw [ex, ey]
      · have := a1 y hy2; rw [ex] at e; omega
    · rcases List.mem_cons.1 hy with ey | hy2
      · have := a1 x hx2; rw [ey] at e; omega
      · exact up_inj a2 hx2 hy2 e
theorem jn_may {a b : List S40} (ha : may a = true) (hb : may b = true) : may (jn a b) = true := by
  have ua := (ups_up a).1 (may_ups ha)
  have ub := (ups_up b).1 (may_ups hb)
  refine may_mk ((ups_up _).2 (jn_up b a ua)) (fun x hx => ?_)
  rcases (jn_mem b a ua ub x).1 hx with h | ⟨h, _⟩
  · exact mayT_of ha x h
  · exact mayT_of hb x h
theorem join_loop (b : List S40) (hb : b.length ≤ 1000000) : ∀ (d i : Nat) (l : List S40), i + d = b.length → Up l → l.length + d ≤ 3000000 →
    Ev (fun k => series_Join.l0 k l b (b.length : Int) (i : Int)) (jn l (b.drop i), 0) := by
  intro d
  induction d with
  | zero =>
    intro i l hi hu hl
    refine ev_step (fun k => rfl) (ev_neg (by omega) (ev_eq (ev_now _) ?_))
    rw [List.drop_of_length_le (by omega)]
    rfl
  | succ d ih =>
    intro i l hi hu hl
    have hs := (ups_up l).2 hu
    have hlb := lb_le l (el b i).f0
    refine ev_step (fun k => rfl) (ev_pos (by omega) (ev_pos (by omega) (ev_pos (by omega) ?_)))
    rw [rd_nat, wrap_nat (show i < b.length by omega) (by omega)]
    have hp : series_place.f l (el b i).f0 = some ((lb l (el b i).f0 : Int), hit l (el b i).f0) := by
      unfold series_place.f
      rw [if_pos (by omega), if_pos hs]
    rw [hp]
    refine ev_some ?_
    have next := ih (i + 1) (insS l (el b i)) (by omega) (insS_up l _ hu) (by have := insS_le l (el b i); omega)
    have e : jn l (b.drop i) = jn (insS l (el b i)) (b.drop (i + 1)) := by rw [el_drop b i (by omega)]; rfl
    rw [e]
    by_cases h : hit l (el b i).f0 = true
    · refine ev_pos h ?_
      have e2 : insS l (el b i) = l := by unfold insS; rw [if_pos h]
      rw [e2] at next ⊢
      exact next
    · refine ev_neg h ?_
      have hi2 : slices_Insert.f l (lb l (el b i).f0 : Int) [(⟨(el b i).f0, (el b i).f1⟩ : S40)] = some (insS l (el b i)) := by
        unfold slices_Insert.f insS
        rw [if_pos (show ([(⟨(el b i).f0, (el b i).f1⟩ : S40)] : List S40).length = 1 from rfl), if_pos (by omega), if_pos (by omega), if_pos (by omega), if_neg h, Int.toNat_natCast]
      show Ev (fun n => (slices_Insert.f l (lb l (el b i).f0 : Int) [(⟨(el b i).f0, (el b i).f1⟩ : S40)]).bind fun t => series_Join.l0 n t b (b.length : Int) ((i + 1 : Nat) : Int)) _
      rw [hi2]
      exact ev_some next
theorem join_is (a b : List S40) (ha : a.length ≤ 1000000) (hb : b.length ≤ 1000000) (ma : may a = true) (mb : may b = true) : Ev (fun k => series_Join.f k a b) (jn a b, 0) := by
  unfold series_Join.f
  refine ev_bind (may_is a (by omega)) (ev_pos ma (ev_bind (may_is b (by omega)) (ev_step (fun k => rfl) ?_)))
  rw [mb]
  have hc : slices_Clone.f a = some a := by unfold slices_Clone.f; rw [if_pos (by omega)]
  simp only [series_Join.j0, hc]
  refine ev_neg (by decide) ?_
  exact ev_some (join_loop b hb b.length 0 a (by omega) ((ups_up a).1 (may_ups ma)) (by omega))
end Go.Proofs.YtbedpnklnamnhaaDoor.SpecJF

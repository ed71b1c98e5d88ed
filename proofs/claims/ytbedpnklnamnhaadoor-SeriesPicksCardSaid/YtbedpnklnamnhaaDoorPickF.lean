/- Plain facts about the document's own Between, Join, Word and Count: they answer as the series' do. No memory and no program. No conditions. -/
import Derived.Test.YtbedpnklnamnhaaDoorSpecJF
import Derived.Test.YtbedpnklnamnhaaDoorPFx13
import Derived.Test.YtbedpnklnamnhaaDoorPFx17
import Derived.Test.YtbedpnklnamnhaaDoorPFx18
import Derived.Test.YtbedpnklnamnhaaDoorPFx19
import Derived.Test.YtbedpnklnamnhaaDoorPFx20
namespace Go.Proofs.YtbedpnklnamnhaaDoor.PickF
open Go.RowKit Go.Proofs.YtbedpnklnamnhaaDoor.PF Go.Proofs.YtbedpnklnamnhaaDoor.SpecF Go.Proofs.YtbedpnklnamnhaaDoor.SpecJF Go.Proofs.YtbedpnklnamnhaaDoorW.PrintWords Go.Proofs.YtbedpnklnamnhaaDoorW.PrintLast
set_option linter.unusedVariables false

/-! ### between two times -/
/-- The samples between two times, as the series has them. -/
def bet (l : List S40) (f t : Int) : List S40 := (l.take (max (lb l f) (lb l t))).drop (lb l f)
theorem bet_sub (l : List S40) (f t : Int) : (bet l f t).Sublist l := (List.drop_sublist _ _).trans (List.take_sublist _ _)
theorem between_is (l : List S40) (f t : Int) (hl : l.length ≤ 1000000) (h : may l = true) : Ev (fun k => series_Between.f k l f t) (bet l f t, 0) := by
  have hu := may_ups h
  have h1 := lb_le l f
  have h2 := lb_le l t
  have hp : ∀ x, series_place.f l x = some ((lb l x : Int), hit l x) := by
    intro x
    unfold series_place.f
    rw [if_pos (by omega), if_pos hu]
  have hm : mx (lb l f : Int) (lb l t : Int) = ((max (lb l f) (lb l t) : Nat) : Int) := by unfold mx; omega
  have hc : slices_Clone.f (bet l f t) = some (bet l f t) := by
    unfold slices_Clone.f
    rw [if_pos]
    unfold bet
    simp only [List.length_drop, List.length_take]
    omega
  unfold series_Between.f
  refine ev_bind (may_is l (by omega)) (ev_pos h ?_)
  simp only [hp, Option.bind_some, hm]
  refine ev_pos (by omega) (ev_pos (by omega) (ev_pos (by omega) ?_))
  rw [Int.toNat_natCast, Int.toNat_natCast]
  show Ev (fun n => (slices_Clone.f (bet l f t)).bind fun t144 => some (t144, (0 : Int))) _
  rw [hc]
  exact ev_some (ev_now _)
/-- The samples between two times, as the document has them. -/
def btw (l : List S40) (f t : Int) : List S40 := l.filter (fun x => decide (f ≤ x.f0) && decide (x.f0 < t))
theorem rbt_loop (l : List S40) (f t : Int) (hl : l.length ≤ 1000000) : ∀ (d i : Nat) (o : List S40), i + d = l.length → o.length + d ≤ 3000000 →
    Ev (fun k => batonref22_Between.l0 k l f t o (i : Int)) (o ++ btw (l.drop i) f t, 0) := by
  intro d
  induction d with
  | zero =>
    intro i o hi ho
    rw [List.drop_of_length_le (by omega)]
    exact ev_step (fun k => rfl) (ev_neg (by omega) (ev_pure (by simp [btw])))
  | succ d ih =>
    intro i o hi ho
    refine ev_step (fun k => rfl) (ev_pos (by omega) (ev_pos (by omega) ?_))
    rw [rd_nat, wrap_nat (show i < l.length by omega) (by omega), el_drop l i (by omega)]
    by_cases h1 : (el l i).f0 ≥ f
    · refine ev_pos h1 ?_
      have h1' : f ≤ (el l i).f0 := h1
      by_cases h2 : (el l i).f0 < t
      · refine ev_pos h2 (ev_pos (by omega) (ev_eq (ih (i + 1) (o ++ [el l i]) (by omega) (by rw [List.length_append, List.length_singleton]; omega)) ?_))
        simp [btw, h1', h2]
      · refine ev_neg h2 (ev_eq (ih (i + 1) o (by omega) (by omega)) ?_)
        simp [btw, h2]
    · refine ev_neg h1 (ev_eq (ih (i + 1) o (by omega) (by omega)) ?_)
      have h1' : ¬ f ≤ (el l i).f0 := h1
      simp [btw, h1']
theorem bet_btw (l : List S40) (f t : Int) (hu : Up l) : bet l f t = btw l f t := by
  refine up_ext _ _ (hu.sublist (bet_sub l f t)) (hu.sublist List.filter_sublist) (fun z => ?_)
  unfold btw
  rw [List.mem_filter]
  simp only [Bool.and_eq_true, decide_eq_true_eq]
  constructor
  · intro hz
    have hz1 : z ∈ l := (bet_sub l f t).subset hz
    unfold bet at hz
    have a1 : z ∈ l.drop (lb l f) := by rw [List.drop_take] at hz; exact List.mem_of_mem_take hz
    have a2 := high_ge l f hu z a1
    have a3 := List.mem_of_mem_drop hz
    by_cases h : lb l f ≤ lb l t
    · rw [Nat.max_eq_right h] at a3
      exact ⟨hz1, a2, low_lt l t z a3⟩
    · rw [Nat.max_eq_left (by omega), List.drop_of_length_le (by rw [List.length_take]; omega)] at hz
      cases hz
  · rintro ⟨hz, h1, h2⟩
    have cut : ∀ (m : List S40) (n : Nat), z ∈ m → z ∈ m.take n ∨ z ∈ m.drop n := fun m n h => List.mem_append.1 ((List.take_append_drop n m).symm ▸ h)
    have b1 : z ∈ l.take (lb l t) := by
      rcases cut l (lb l t) hz with h | h
      · exact h
      · have := high_ge l t hu z h
        omega
    have b2 : z ∈ l.take (max (lb l f) (lb l t)) := by
      have e : (l.take (max (lb l f) (lb l t))).take (lb l t) = l.take (lb l t) := by rw [List.take_take, Nat.min_eq_left (Nat.le_max_right _ _)]
      rw [← e] at b1
      exact List.mem_of_mem_take b1
    rcases cut _ (lb l f) b2 with h | h
    · rw [List.take_take, Nat.min_eq_left (Nat.le_max_left _ _)] at h
      have := low_lt l f z h
      omega
    · exact h
/-- What both answer. -/
def bw (l : List S40) (f t : Int) : List S40 × Int := if may l = true then (bet l f t, 0) else ([], 4)
theorem bw_is (l : List S40) (f t : Int) (hl : l.length ≤ 1000000) : Ev (fun k => series_Between.f k l f t) (bw l f t) := by
  unfold bw
  by_cases h : may l = true
  · rw [if_pos h]; exact between_is l f t hl h
  · rw [if_neg h]
    unfold series_Between.f
    exact ev_bind (may_is l (by omega)) (ev_neg h (ev_now _))
theorem rbw_is (l : List S40) (f t : Int) (hl : l.length ≤ 1000000) : Ev (fun k => batonref22_Between.f k l f t) (bw l f t) := by
  unfold bw batonref22_Between.f
  by_cases h : may l = true
  · rw [if_pos h]
    refine ev_bind (rmay_is l (by omega)) (ev_pos h (ev_eq (rbt_loop l f t hl l.length 0 [] (by omega) (by simp; omega)) ?_))
    rw [bet_btw l f t ((ups_up l).1 (may_ups h))]
    simp
  · rw [if_neg h]
    exact ev_bind (rmay_is l (by omega)) (ev_neg h (ev_now _))

/-! ### two series joined, by the document's own words -/
section
variable {a b o : List S40} {i k : Nat} {r : List S40 × Int}
theorem rj_end (hi : a.length ≤ i) (hk : b.length ≤ k) : Ev (fun n => batonref22_Join.l0 n a b o (i : Int) (k : Int)) (o, 0) := by
  refine ev_step (fun k => rfl) ?_
  simp only [batonref22_Join.l0]
  refine ev_neg (by omega) (ev_step (fun k => rfl) ?_)
  simp only [batonref22_Join.j2]
  exact ev_neg (by simp; omega) (ev_now _)
theorem rj_a (ha : a.length ≤ 1000000) (hb : b.length ≤ 1000000) (hi : i < a.length) (hk : b.length ≤ k) (ho : o.length ≤ 3000000) (h : Ev (fun n => batonref22_Join.l0 n a b (o ++ [el a i]) ((i + 1 : Nat) : Int) (k : Int)) r) :
    Ev (fun n => batonref22_Join.l0 n a b o (i : Int) (k : Int)) r := by
  refine ev_step (fun k => rfl) ?_
  simp only [batonref22_Join.l0]
  refine ev_pos (by omega) (ev_step (fun k => rfl) ?_)
  simp only [batonref22_Join.j2]
  refine ev_pos (by trivial) (ev_pos (by omega) (ev_step (fun k => rfl) ?_))
  simp only [batonref22_Join.j3]
  refine ev_pos (by trivial) (ev_neg (by omega) (ev_pos (by omega) (ev_pos (by omega) (ev_pos (by omega) ?_))))
  rw [rd_nat, wrap_nat hi (by omega)]
  exact h
theorem rj_b (ha : a.length ≤ 1000000) (hb : b.length ≤ 1000000) (hi : a.length ≤ i) (hk : k < b.length) (ho : o.length ≤ 3000000) (h : Ev (fun n => batonref22_Join.l0 n a b (o ++ [el b k]) (i : Int) ((k + 1 : Nat) : Int)) r) :
    Ev (fun n => batonref22_Join.l0 n a b o (i : Int) (k : Int)) r := by
  refine ev_step (fun k => rfl) ?_
  simp only [batonref22_Join.l0]
  refine ev_neg (by omega) (ev_step (fun k => rfl) ?_)
  simp only [batonref22_Join.j2]
  refine ev_pos (by simp; omega) (ev_neg (by omega) (ev_neg (by omega) (ev_step (fun k => rfl) ?_)))
  simp only [batonref22_Join.j3]
  refine ev_neg (by simp) (ev_pos (by omega) (ev_pos (by omega) (ev_pos (by omega) ?_)))
  rw [rd_nat, wrap_nat hk (by omega)]
  exact h
theorem rj_lt (ha : a.length ≤ 1000000) (hb : b.length ≤ 1000000) (hi : i < a.length) (hk : k < b.length) (ht : (el a i).f0 < (el b k).f0) (ho : o.length ≤ 3000000) (h : Ev (fun n => batonref22_Join.l0 n a b (o ++ [el a i]) ((i + 1 : Nat) : Int) (k : Int)) r) :
    Ev (fun n => batonref22_Join.l0 n a b o (i : Int) (k : Int)) r := by
  refine ev_step (fun k => rfl) ?_
  simp only [batonref22_Join.l0]
  refine ev_pos (by omega) (ev_step (fun k => rfl) ?_)
  simp only [batonref22_Join.j2]
  refine ev_pos (by trivial) (ev_neg (by omega) (ev_pos (by omega) (ev_pos (by omega) (ev_pos (by omega) (ev_pos (by omega) (ev_step (fun k => rfl) ?_))))))
  simp only [batonref22_Join.j3, rd_nat]
  refine ev_pos (by simp; omega) (ev_pos (by omega) (ev_pos (by omega) (ev_pos (by omega) (ev_pos (by omega) (ev_neg (by omega) (ev_pos (by omega) ?_))))))
  rw [wrap_nat hi (by omega)]
  exact h
theorem rj_eq (ha : a.length ≤ 1000000) (hb : b.length ≤ 1000000) (hi : i < a.length) (hk : k < b.length) (ht : (el a i).f0 = (el b k).f0) (ho : o.length ≤ 3000000) (h : Ev (fun n => batonref22_Join.l0 n a b (o ++ [el a i]) ((i + 1 : Nat) : Int) ((k + 1 : Nat) : Int)) r) :
    Ev (fun n => batonref22_Join.l0 n a b o (i : Int) (k : Int)) r := by
  refine ev_step (fun k => rfl) ?_
  simp only [batonref22_Join.l0]
  refine ev_pos (by omega) (ev_step (fun k => rfl) ?_)
  simp only [batonref22_Join.j2]
  refine ev_pos (by trivial) (ev_neg (by omega) (ev_pos (by omega) (ev_pos (by omega) (ev_pos (by omega) (ev_pos (by omega) (ev_step (fun k => rfl) ?_))))))
  simp only [batonref22_Join.j3, rd_nat]
  refine ev_pos (by simp; omega) (ev_pos (by omega) (ev_pos (by omega) (ev_pos (by omega) (ev_pos (by omega) (ev_pos (by omega) (ev_pos (by omega) ?_))))))
  rw [wrap_nat hi (by omega), wrap_nat hk (by omega)]
  exact h
theorem rj_gt (ha : a.length ≤ 1000000) (hb : b.length ≤ 1000000) (hi : i < a.length) (hk : k < b.length) (ht : (el b k).f0 < (el a i).f0) (ho : o.length ≤ 3000000) (h : Ev (fun n => batonref22_Join.l0 n a b (o ++ [el b k]) (i : Int) ((k + 1 : Nat) : Int)) r) :
    Ev (fun n => batonref22_Join.l0 n a b o (i : Int) (k : Int)) r := by
  refine ev_step (fun k => rfl) ?_
  simp only [batonref22_Join.l0]
  refine ev_pos (by omega) (ev_step (fun k => rfl) ?_)
  simp only [batonref22_Join.j2]
  refine ev_pos (by trivial) (ev_neg (by omega) (ev_pos (by omega) (ev_pos (by omega) (ev_pos (by omega) (ev_pos (by omega) (ev_step (fun k => rfl) ?_))))))
  simp only [batonref22_Join.j3, rd_nat]
  refine ev_neg (by simp; omega) (ev_pos (by omega) (ev_pos (by omega) (ev_pos (by omega) ?_)))
  rw [wrap_nat hk (by omega)]
  exact h
end
/-- What stands in two rows joined by time. -/
def Mix (A B R : List S40) : Prop := Up R ∧ ∀ z, z ∈ R ↔ z ∈ A ∨ (z ∈ B ∧ ∀ y ∈ A, y.f0 ≠ z.f0)
theorem up_head {x : S40} {A : List S40} (h : Up (x :: A)) : (∀ z ∈ A, x.f0 < z.f0) ∧ Up A := List.pairwise_cons.1 h
theorem mix_a {x : S40} {A B R : List S40} (ua : Up (x :: A)) (hb : ∀ z ∈ B, x.f0 < z.f0) (h : Mix A B R) : Mix (x :: A) B (x :: R) := by
  obtain ⟨ur, hm⟩ := h
  obtain ⟨h1, _⟩ := up_head ua
  refine ⟨List.pairwise_cons.2 ⟨fun z hz => ?_, ur⟩, fun z => ?_⟩
  · rcases (hm z).1 hz with h | ⟨h, _⟩
    · exact h1 z h
    · exact hb z h
  · rw [List.mem_cons, List.mem_cons, hm z]
    constructor
    · rintro (h | h | ⟨h, h2⟩)
      · exact Or.inl (Or.inl h)
      · exact Or.inl (Or.inr h)
      · refine Or.inr ⟨h, fun y hy => ?_⟩
        rcases List.mem_cons.1 hy with rfl | hy
        · have := hb z h; omega
        · exact h2 y hy
    · rintro ((h | h) | ⟨h, h2⟩)
      · exact Or.inl h
      · exact Or.inr (Or.inl h)
      · exact Or.inr (Or.inr ⟨h, fun y hy => h2 y (List.mem_cons_of_mem _ hy)⟩)
theorem mix_eq {x y : S40} {A B R : List S40} (ua : Up (x :: A)) (ub : Up (y :: B)) (e : x.f0 = y.f0) (h : Mix A B R) : Mix (x :: A) (y :: B) (x :: R) := by
  obtain ⟨h1, h2⟩ := up_head ub
  have m := mix_a ua (fun z hz => by rw [e]; exact h1 z hz) h
  refine ⟨m.1, fun z => (m.2 z).trans ?_⟩
  constructor
  · rintro (h | ⟨h, h3⟩)
    · exact Or.inl h
    · exact Or.inr ⟨List.mem_cons_of_mem _ h, h3⟩
  · rintro (h | ⟨h, h3⟩)
    · exact Or.inl h
    · rcases List.mem_cons.1 h with rfl | h
      · exact absurd e (h3 x (List.mem_cons_self ..))
      · exact Or.inr ⟨h, h3⟩
theorem mix_b {y : S40} {A B R : List S40} (ub : Up (y :: B)) (ha : ∀ z ∈ A, y.f0 < z.f0) (h : Mix A B R) : Mix A (y :: B) (y :: R) := by
  obtain ⟨ur, hm⟩ := h
  obtain ⟨h1, _⟩ := up_head ub
  refine ⟨List.pairwise_cons.2 ⟨fun z hz => ?_, ur⟩, fun z => ?_⟩
  · rcases (hm z).1 hz with h | ⟨h, _⟩
    · exact ha z h
    · exact h1 z h
  · rw [List.mem_cons, List.mem_cons, hm z]
    constructor
    · rintro (rfl | h | ⟨h, h2⟩)
      · exact Or.inr ⟨Or.inl rfl, fun q hq => by have := ha q hq; omega⟩
      · exact Or.inl h
      · exact Or.inr ⟨Or.inr h, h2⟩
    · rintro (h | ⟨h | h, h2⟩)
      · exact Or.inr (Or.inl h)
      · exact Or.inl h
      · exact Or.inr (Or.inr ⟨h, h2⟩)
theorem rjoin_loop (a b : List S40) (ha : a.length ≤ 1000000) (hb : b.length ≤ 1000000) (ua : Up a) (ub : Up b) : ∀ (d i k : Nat) (o : List S40), (a.length - i) + (b.length - k) ≤ d → o.length + d ≤ 3000000 →
    ∃ R, Ev (fun n => batonref22_Join.l0 n a b o (i : Int) (k : Int)) (o ++ R, 0) ∧ Mix (a.drop i) (b.drop k) R := by
  intro d
  induction d with
  | zero =>
    intro i k o hd ho
    refine ⟨[], ?_, ?_⟩
    · rw [List.append_nil]; exact rj_end (by omega) (by omega)
    · rw [List.drop_of_length_le (by omega), List.drop_of_length_le (by omega)]
      exact ⟨List.Pairwise.nil, fun z => by simp⟩
  | succ d ih =>
    intro i k o hd ho
    have lo : ∀ x : S40, (o ++ [x]).length = o.length + 1 := fun x => by rw [List.length_append, List.length_singleton]
    have put : ∀ (x : S40) (R : List S40), (o ++ [x] ++ R, (0 : Int)) = (o ++ x :: R, 0) := fun x R => by simp
    by_cases hi : i < a.length
    · have ea := el_drop a i hi
      have ua' : Up (el a i :: a.drop (i + 1)) := by rw [← ea]; exact ua.sublist (List.drop_sublist _ _)
      by_cases hk : k < b.length
      · have eb := el_drop b k hk
        have ub' : Up (el b k :: b.drop (k + 1)) := by rw [← eb]; exact ub.sublist (List.drop_sublist _ _)
        rcases Int.lt_trichotomy (el a i).f0 (el b k).f0 with ht | ht | ht
        · obtain ⟨R, h1, h2⟩ := ih (i + 1) k (o ++ [el a i]) (by omega) (by rw [lo]; omega)
          refine ⟨el a i :: R, ev_eq (rj_lt ha hb hi hk ht (by omega) h1) (put _ _), ?_⟩
          rw [ea]
          refine mix_a ua' (fun z hz => ?_) h2
          rw [eb] at hz
          rcases List.mem_cons.1 hz with rfl | hz
          · exact ht
          · have := (up_head ub').1 z hz; omega
        · obtain ⟨R, h1, h2⟩ := ih (i + 1) (k + 1) (o ++ [el a i]) (by omega) (by rw [lo]; omega)
          refine ⟨el a i :: R, ev_eq (rj_eq ha hb hi hk ht (by omega) h1) (put _ _), ?_⟩
          rw [ea, eb]
          exact mix_eq ua' ub' ht h2
        · obtain ⟨R, h1, h2⟩ := ih i (k + 1) (o ++ [el b k]) (by omega) (by rw [lo]; omega)
          refine ⟨el b k :: R, ev_eq (rj_gt ha hb hi hk ht (by omega) h1) (put _ _), ?_⟩
          rw [eb]
          refine mix_b ub' (fun z hz => ?_) h2
          rw [ea] at hz
          rcases List.mem_cons.1 hz with rfl | hz
          · exact ht
          · have := (up_head ua').1 z hz; omega
      · obtain ⟨R, h1, h2⟩ := ih (i + 1) k (o ++ [el a i]) (by omega) (by rw [lo]; omega)
        refine ⟨el a i :: R, ev_eq (rj_a ha hb hi (by omega) (by omega) h1) (put _ _), ?_⟩
        rw [ea]
        refine mix_a ua' (fun z hz => ?_) h2
        rw [List.drop_of_length_le (by omega)] at hz
        cases hz
    · by_cases hk : k < b.length
      · have eb := el_drop b k hk
        have ub' : Up (el b k :: b.drop (k + 1)) := by rw [← eb]; exact ub.sublist (List.drop_sublist _ _)
        obtain ⟨R, h1, h2⟩ := ih i (k + 1) (o ++ [el b k]) (by omega) (by rw [lo]; omega)
        refine ⟨el b k :: R, ev_eq (rj_b ha hb (by omega) hk (by omega) h1) (put _ _), ?_⟩
        rw [eb]
        refine mix_b ub' (fun z hz => ?_) h2
        rw [List.drop_of_length_le (by omega)] at hz
        cases hz
      · refine ⟨[], ?_, ?_⟩
        · rw [List.append_nil]; exact rj_end (by omega) (by omega)
        · rw [List.drop_of_length_le (by omega), List.drop_of_length_le (by omega)]
          exact ⟨List.Pairwise.nil, fun z => by simp⟩
/-- What both joins answer. -/
def jw (a b : List S40) : List S40 × Int := if may a = true then (if may b = true then (jn a b, 0) else ([], 4)) else ([], 4)
theorem jw_is (a b : List S40) (ha : a.length ≤ 1000000) (hb : b.length ≤ 1000000) : Ev (fun k => series_Join.f k a b) (jw a b) := by
  unfold jw
  by_cases ma : may a = true
  · rw [if_pos ma]
    by_cases mb : may b = true
    · rw [if_pos mb]; exact join_is a b ha hb ma mb
    · rw [if_neg mb]
      unfold series_Join.f
      refine ev_bind (may_is a (by omega)) (ev_pos ma (ev_bind (may_is b (by omega)) (ev_step (fun k => rfl) ?_)))
      simp only [series_Join.j0]
      exact ev_pos (by simpa using mb) (ev_now _)
  · rw [if_neg ma]
    unfold series_Join.f
    refine ev_bind (may_is a (by omega)) (ev_neg ma (ev_step (fun k => rfl) ?_))
    simp only [series_Join.j0]
    exact ev_pos (by trivial) (ev_now _)
theorem rjw_is (a b : List S40) (ha : a.length ≤ 1000000) (hb : b.length ≤ 1000000) : Ev (fun k => batonref22_Join.f k a b) (jw a b) := by
  unfold jw batonref22_Join.f
  by_cases ma : may a = true
  · rw [if_pos ma]
    refine ev_bind (rmay_is a (by omega)) (ev_pos ma (ev_bind (rmay_is b (by omega)) (ev_step (fun k => rfl) ?_)))
    simp only [batonref22_Join.j0]
    by_cases mb : may b = true
    · rw [if_pos mb]
      have ua := (ups_up a).1 (may_ups ma)
      have ub := (ups_up b).1 (may_ups mb)
      obtain ⟨R, h1, h2, h3⟩ := rjoin_loop a b ha hb ua ub (a.length + b.length) 0 0 [] (by omega) (by simp; omega)
      refine ev_neg (by simp [mb]) (ev_eq h1 ?_)
      rw [List.nil_append, up_ext R (jn a b) h2 (jn_up b a ua) (fun z => (h3 z).trans (jn_mem b a ua ub z).symm)]
    · rw [if_neg mb]
      exact ev_pos (by simpa using mb) (ev_now _)
  · rw [if_neg ma]
    refine ev_bind (rmay_is a (by omega)) (ev_neg ma (ev_step (fun k => rfl) ?_))
    simp only [batonref22_Join.j0]
    exact ev_pos (by trivial) (ev_now _)
theorem jw_len (a b : List S40) : (jw a b).1.length ≤ a.length + b.length := by
  have : ∀ (b a : List S40), (jn a b).length ≤ a.length + b.length := by
    intro b
    induction b with
    | nil => intro a; exact Nat.le_refl _
    | cons s b ih =>
      intro a
      have h1 := ih (insS a s)
      have h2 := insS_le a s
      show (jn (insS a s) b).length ≤ _
      rw [List.length_cons]
      omega
  unfold jw
  split
  · split
    · exact this b a
    · exact Nat.zero_le _
  · exact Nat.zero_le _

/-! ### words and counts -/
theorem words_all : ∀ v : Fin 256, (batonref22_Word.f 1 ((v : Nat) : Int)).map (fun s => s.data.toList) = some ((vword ((v : Nat) : Int)).data.toList) := by decide +kernel
theorem word_is (v : Int) (h0 : 0 ≤ v) (h1 : v < 256) : Ev (fun k => batonref22_Word.f k v) (vword v) := by
  refine Ev.of (batonref22_Word.mono v) (k := 1) ?_
  have h := words_all ⟨v.toNat, by omega⟩
  simp only [Int.toNat_of_nonneg h0] at h
  obtain ⟨s, e, hs⟩ := Option.map_eq_some_iff.1 h
  rw [e]
  have : s = vword v := by
    apply ByteArray.ext
    exact Array.toList_inj.1 hs
  rw [this]
/-- The five counts as a list. -/
def cl (l : List Int) : List Int := [(cnt l 0 : Int), (cnt l 1 : Int), (cnt l 2 : Int), (cnt l 3 : Int), (cnt l 4 : Int)]
theorem rcount_loop (l : List Int) (hl : l.length ≤ 1000000) (hw : ∀ i, i < l.length → 0 ≤ l.getD i 0 ∧ l.getD i 0 < 256) : ∀ (d i : Nat), i + d = l.length →
    Ev (fun k => batonref22_Count.l0 k l (cl (l.take i)) (i : Int)) (cl l) := by
  intro d
  induction d with
  | zero =>
    intro i hi
    rw [List.take_of_length_le (by omega)]
    exact ev_step (fun k => rfl) (ev_neg (by omega) (ev_now _))
  | succ d ih =>
    intro i hi
    have hil : i < l.length := by omega
    have hct := fun j => cnt_take l i hil j
    have hle := fun j => cnt_le (l.take i) j
    have htl : (l.take i).length = i := by rw [List.length_take]; omega
    have h0 := (hw i hil).1
    refine ev_step (fun k => rfl) (ev_pos (by omega) (ev_pos (by omega) ?_))
    rw [rdi_nat, wrap_nat hil (by omega)]
    generalize hv : l.getD i 0 = v at *
    have wr : ∀ j : Int, wrap64 ((cnt (l.take i) j : Int) + 1) = ((cnt (l.take i) j + 1 : Nat) : Int) := fun j => by
      have := hle j
      unfold wrap64
      omega
    by_cases h5 : v < 5
    · refine ev_pos h5 (ev_pos h0 (ev_pos (by show v < ((5 : Nat) : Int); omega) (ev_eq ?_ rfl)))
      have e : (cl (l.take i)).set v.toNat (wrap64 (rd (cl (l.take i)) v + 1)) = cl (l.take (i + 1)) := by
        rcases (show v = 0 ∨ v = 1 ∨ v = 2 ∨ v = 3 ∨ v = 4 by omega) with rfl | rfl | rfl | rfl | rfl <;> (unfold cl; simp [hct, rd, wr])
      rw [e]
      exact ih (i + 1) (by omega)
    · refine ev_neg h5 ?_
      have e : cl (l.take i) = cl (l.take (i + 1)) := by
        have n : ∀ j : Int, j < 5 → cnt (l.take (i + 1)) j = cnt (l.take i) j := fun j hj => by rw [hct j, if_neg (by omega)]; rfl
        unfold cl
        rw [n 0 (by decide), n 1 (by decide), n 2 (by decide), n 3 (by decide), n 4 (by decide)]
      rw [e]
      exact ih (i + 1) (by omega)
theorem rcount_is (l : List Int) (hl : l.length ≤ 1000000) (hw : ∀ i, i < l.length → 0 ≤ l.getD i 0 ∧ l.getD i 0 < 256) : Ev (fun k => batonref22_Count.f k l) (cl l) :=
  rcount_loop l hl hw l.length 0 (by omega)
end Go.Proofs.YtbedpnklnamnhaaDoor.PickF

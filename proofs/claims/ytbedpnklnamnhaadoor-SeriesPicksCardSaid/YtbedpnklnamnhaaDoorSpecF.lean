/- Plain facts about what the series functions compute: no memory and no program; used by the statements on series. No conditions. -/
import Derived.Test.YtbedpnklnamnhaaDoorPFx5
import Derived.Test.YtbedpnklnamnhaaDoorPFx9
import Derived.Test.YtbedpnklnamnhaaDoorPFx10
import Derived.Test.YtbedpnklnamnhaaDoorPFx11
import Derived.Test.YtbedpnklnamnhaaDoorPFx13
namespace Go.Proofs.YtbedpnklnamnhaaDoor.SpecF
open Go.RowKit Go.Proofs.YtbedpnklnamnhaaDoor.PF Go.Proofs.YtbedpnklnamnhaaDoorW.PrintWords Go.Proofs.YtbedpnklnamnhaaDoorW.PrintLast
set_option linter.unusedVariables false

/-! ### rounds -/
section
variable {α β : Type} {r : α}
theorem ev_pos {c : Prop} [Decidable c] {f g : Nat → Option α} (hc : c) (h : Ev f r) : Ev (fun n => if c then f n else g n) r := by
  obtain ⟨K, hK⟩ := h; exact ⟨K, fun k hk => by show (if c then f k else g k) = _; rw [if_pos hc]; exact hK k hk⟩
theorem ev_neg {c : Prop} [Decidable c] {f g : Nat → Option α} (hc : ¬ c) (h : Ev g r) : Ev (fun n => if c then f n else g n) r := by
  obtain ⟨K, hK⟩ := h; exact ⟨K, fun k hk => by show (if c then f k else g k) = _; rw [if_neg hc]; exact hK k hk⟩
theorem ev_bind {a : β} {g : Nat → Option β} {f : Nat → β → Option α} (h : Ev g a) (k : Ev (fun n => f n a) r) : Ev (fun n => (g n).bind (f n)) r := Ev.bind h k
theorem ev_some {a : β} {f : Nat → β → Option α} (k : Ev (fun n => f n a) r) : Ev (fun n => (some a).bind (f n)) r := by
  obtain ⟨K, hK⟩ := k; exact ⟨K, fun n hn => hK n hn⟩
theorem ev_now (r : α) : Ev (fun _ => some r) r := Ev.now r
theorem ev_eq {a b : α} {f : Nat → Option α} (h : Ev f a) (e : a = b) : Ev f b := e ▸ h
theorem ev_step {g f : Nat → Option α} (h : ∀ k, g (k + 1) = f k) (k : Ev f r) : Ev g r := Ev.step h k
theorem ev_pure {g : Option α} (h : g = some r) : Ev (fun _ => g) r := ⟨0, fun _ _ => h⟩
end

theorem wrap_nat {i n : Nat} (h : i < n) (hn : n ≤ 9223372036854775807) : wrap64 ((i : Int) + 1) = ((i + 1 : Nat) : Int) := by unfold wrap64; omega
theorem wrap_pred {i n : Nat} (h0 : 0 < i) (h : i ≤ n) (hn : n ≤ 9223372036854775807) : wrap64 ((i : Int) - 1) = ((i - 1 : Nat) : Int) := by unfold wrap64; omega
def el (l : List S40) (i : Nat) : S40 := l.getD i z40
theorem rd_nat (l : List S40) (i : Nat) : rd_T40 l (i : Int) = el l i := by unfold rd_T40 el; rw [Int.toNat_natCast]
theorem rdi_nat (l : List Int) (i : Nat) : rd l (i : Int) = l.getD i 0 := by unfold rd; rw [Int.toNat_natCast]

/-- p at i, .., i + d - 1. -/
def allF (p : Nat → Bool) : Nat → Nat → Bool
  | _, 0 => true
  | i, d + 1 => p i && allF p (i + 1) d
theorem allF_iff (p : Nat → Bool) : ∀ (d i : Nat), allF p i d = true ↔ ∀ j, i ≤ j → j < i + d → p j = true
  | 0, i => by simp [allF]; intro j h1 h2; omega
  | d + 1, i => by
    simp only [allF, Bool.and_eq_true, allF_iff p d (i + 1)]
    constructor
    · rintro ⟨h1, h2⟩ j h3 h4
      by_cases e : j = i
      · rw [e]; exact h1
      · exact h2 j (by omega) (by omega)
    · intro h
      exact ⟨h i (by omega) (by omega), fun j h1 h2 => h j (by omega) (by omega)⟩

/-! ### May -/
def mayT (t : Int) : Bool := decide (0 ≤ t) && decide (t ≤ 1125899906842624)
def okAt (l : List S40) (j : Nat) : Bool := mayT (el l j).f0 && (j == 0 || decide ((el l (j - 1)).f0 < (el l j).f0))
def may (l : List S40) : Bool := allF (okAt l) 0 l.length

theorem mayTime_is (t : Int) : series_mayTime.f t = some (mayT t) := by
  unfold series_mayTime.f mayT
  by_cases h : t ≥ 0
  · rw [if_pos h]; simp [show 0 ≤ t from h]
  · rw [if_neg h]; simp [show ¬ 0 ≤ t from h]

theorem may_loop (l : List S40) (hn : l.length ≤ 9223372036854775807) : ∀ (d i : Nat), i + d = l.length → Ev (fun k => series_May.l0 k l l (l.length : Int) (i : Int)) (allF (okAt l) i d) := by
  intro d
  induction d with
  | zero => intro i hi; exact ev_step (fun k => rfl) (ev_neg (by omega) (ev_now _))
  | succ d ih =>
    intro i hi
    refine ev_step (fun k => rfl) (ev_pos (by omega) (ev_pos (by omega) (ev_pos (by omega) ?_)))
    rw [mayTime_is]
    refine ev_some ?_
    rw [rd_nat]
    simp only [allF]
    by_cases h1 : mayT (el l i).f0 = true
    · refine ev_pos h1 ?_
      by_cases h2 : 0 < i
      · refine ev_pos (by omega) ?_
        rw [wrap_pred h2 (by omega) hn, rd_nat]
        refine ev_pos (by omega) (ev_pos (by omega) ?_)
        by_cases h3 : (el l i).f0 ≤ (el l (i - 1)).f0
        · exact ev_pos h3 (ev_eq (ev_now _) (by rw [show okAt l i = false by unfold okAt; simp; intro _; omega]; rfl))
        · refine ev_neg h3 ?_
          rw [wrap_nat (show i < l.length by omega) hn]
          exact ev_eq (ih (i + 1) (by omega)) (by rw [show okAt l i = true by unfold okAt; simp [h1]; omega]; rfl)
      · refine ev_neg (by omega) ?_
        obtain rfl : i = 0 := by omega
        rw [wrap_nat (show 0 < l.length by omega) hn]
        exact ev_eq (ih 1 (by omega)) (by rw [show okAt l 0 = true by unfold okAt; simp [h1]]; rfl)
    · exact ev_neg h1 (ev_eq (ev_now _) (by rw [show okAt l i = false by unfold okAt; simp [h1]]; rfl))
theorem may_is (l : List S40) (hn : l.length ≤ 9223372036854775807) : Ev (fun k => series_May.f k l) (may l) := may_loop l hn l.length 0 (by omega)

theorem rmay_loop (l : List S40) (hn : l.length ≤ 9223372036854775807) : ∀ (d i : Nat), i + d = l.length → Ev (fun k => batonref22_May.l0 k l (i : Int)) (allF (okAt l) i d) := by
  intro d
  induction d with
  | zero => intro i hi; exact ev_step (fun k => rfl) (ev_neg (by omega) (ev_now _))
  | succ d ih =>
    intro i hi
    refine ev_step (fun k => rfl) (ev_pos (by omega) (ev_pos (by omega) ?_))
    rw [rd_nat]
    simp only [allF]
    by_cases h0 : (el l i).f0 < 0
    · exact ev_pos h0 (ev_eq (ev_now _) (by rw [show okAt l i = false by unfold okAt mayT; simp; omega]; rfl))
    refine ev_neg h0 ?_
    by_cases h01 : (el l i).f0 > 1125899906842624
    · exact ev_pos h01 (ev_eq (ev_now _) (by rw [show okAt l i = false by unfold okAt mayT; simp; omega]; rfl))
    refine ev_neg h01 ?_
    have h1 : mayT (el l i).f0 = true := by unfold mayT; simp; omega
    by_cases h2 : 0 < i
    · refine ev_pos (by omega) ?_
      rw [wrap_pred h2 (by omega) hn, rd_nat]
      refine ev_pos (by omega) (ev_pos (by omega) ?_)
      by_cases h3 : (el l i).f0 ≤ (el l (i - 1)).f0
      · exact ev_pos h3 (ev_eq (ev_now _) (by rw [show okAt l i = false by unfold okAt; simp; intro _; omega]; rfl))
      · refine ev_neg h3 ?_
        rw [wrap_nat (show i < l.length by omega) hn]
        exact ev_eq (ih (i + 1) (by omega)) (by rw [show okAt l i = true by unfold okAt; simp [h1]; omega]; rfl)
    · refine ev_neg (by omega) ?_
      obtain rfl : i = 0 := by omega
      rw [wrap_nat (show 0 < l.length by omega) hn]
      exact ev_eq (ih 1 (by omega)) (by rw [show okAt l 0 = true by unfold okAt; simp [h1]]; rfl)
theorem rmay_is (l : List S40) (hn : l.length ≤ 9223372036854775807) : Ev (fun k => batonref22_May.f k l) (may l) := rmay_loop l hn l.length 0 (by omega)

theorem may_iff (l : List S40) : may l = true ↔ ∀ j, j < l.length → okAt l j = true := by
  unfold may; rw [allF_iff]
  exact ⟨fun h j hj => h j (by omega) (by omega), fun h j _ hj => h j (by omega)⟩

/-! ### Same, verdicts -/
theorem same_loop (a b : List S40) (hl : a.length = b.length) (hn : a.length ≤ 9223372036854775807) : ∀ (d i : Nat), i + d = a.length → Ev (fun k => batonref22_Same.l0 k a b (i : Int)) (allF (fun j => (el a j).f0 == (el b j).f0 && (el a j).f1 == (el b j).f1) i d) := by
  intro d
  induction d with
  | zero => intro i hi; exact ev_step (fun k => rfl) (ev_neg (by omega) (ev_now _))
  | succ d ih =>
    intro i hi
    refine ev_step (fun k => rfl) (ev_pos (by omega) (ev_pos (by omega) (ev_pos (by omega) ?_)))
    rw [rd_nat, rd_nat]
    simp only [allF]
    by_cases h : ((el a i).f0 == (el b i).f0 && (el a i).f1 == (el b i).f1) = true
    · rw [h]
      refine ev_neg (by simp at h ⊢; exact h) ?_
      rw [wrap_nat (show i < a.length by omega) hn]
      exact ev_eq (ih (i + 1) (by omega)) (by simp)
    · refine ev_pos (by simp at h ⊢; by_cases e : (el a i).f0 = (el b i).f0; exact .inr (h e); exact .inl e) (ev_eq (ev_now _) (by simp at h; simp; intro e1 e2; exact absurd e2 (h e1)))
theorem ext_el {a b : List S40} (hl : a.length = b.length) (h : ∀ j, j < a.length → (el a j).f0 = (el b j).f0 ∧ (el a j).f1 = (el b j).f1) : a = b := by
  refine List.ext_getElem hl (fun j h1 h2 => ?_)
  have := h j h1
  unfold el at this
  simp only [List.getD, List.getElem?_eq_getElem h1, List.getElem?_eq_getElem h2, Option.getD_some] at this
  cases hx : a[j]; cases hy : b[j]; rw [hx, hy] at this; simp at this; rw [this.1, this.2]
theorem same_is (a b : List S40) (hn : a.length ≤ 9223372036854775807) [DecidableEq S40] : Ev (fun k => batonref22_Same.f k a b) (decide (a = b)) := by
  unfold batonref22_Same.f
  by_cases hl : a.length = b.length
  · refine ev_pos (by omega) (ev_eq (same_loop a b hl hn a.length 0 (by omega)) ?_)
    rw [Bool.eq_iff_iff, allF_iff, decide_eq_true_iff]
    constructor
    · intro h; refine ext_el hl (fun j hj => ?_); have := h j (by omega) (by omega); simpa using this
    · rintro rfl j _ _; simp
  · exact ev_neg (by omega) (ev_eq (ev_now _) (by simp; rintro rfl; exact hl rfl))
instance : DecidableEq S40 := fun a b => if h : a.f0 = b.f0 ∧ a.f1 = b.f1 then .isTrue (by cases a; cases b; simp at h; rw [h.1, h.2]) else .isFalse (by rintro rfl; exact h ⟨rfl, rfl⟩)
theorem same_refl (a : List S40) (hn : a.length ≤ 9223372036854775807) : Ev (fun k => batonref22_Same.f k a a) true := ev_eq (same_is a a hn) (by simp)

theorem ver_loop (a b : List Int) (hl : a.length = b.length) (hn : a.length ≤ 9223372036854775807) : ∀ (d i : Nat), i + d = a.length → Ev (fun k => batonlaw22_verdicts.l0 k a b (i : Int)) (allF (fun j => a.getD j 0 == b.getD j 0) i d) := by
  intro d
  induction d with
  | zero => intro i hi; exact ev_step (fun k => rfl) (ev_neg (by omega) (ev_now _))
  | succ d ih =>
    intro i hi
    refine ev_step (fun k => rfl) (ev_pos (by omega) (ev_pos (by omega) (ev_pos (by omega) ?_)))
    rw [rdi_nat, rdi_nat]
    simp only [allF]
    by_cases h : a.getD i 0 = b.getD i 0
    · refine ev_pos h ?_
      rw [wrap_nat (show i < a.length by omega) hn]
      exact ev_eq (ih (i + 1) (by omega)) (by rw [h, beq_self_eq_true, Bool.true_and])
    · exact ev_neg h (ev_eq (ev_now _) (by rw [beq_eq_false_iff_ne.2 h, Bool.false_and]))
theorem ver_refl (a : List Int) (hn : a.length ≤ 9223372036854775807) : Ev (fun k => batonlaw22_verdicts.f k a a) true := by
  unfold batonlaw22_verdicts.f
  refine ev_pos rfl (ev_eq (ver_loop a a rfl hn a.length 0 (by omega)) ?_)
  rw [allF_iff]; intro j _ _; exact beq_self_eq_true _

/-! ### judge -/
/-- What a sample is: by the first one of the series that is no earlier. -/
def jf (o : Option S40) (t b : Int) : Int := match o with | none => 1 | some x => if x.f0 = t then (if x.f1 = b then 2 else 3) else 4
theorem jf_none (t b : Int) : jf none t b = 1 := rfl
theorem jf_some (x : S40) (t b : Int) : jf (some x) t b = if x.f0 = t then (if x.f1 = b then 2 else 3) else 4 := rfl
def jd (l : List S40) (t b : Int) : Int := if mayT t = true then jf (l.find? (fun x => decide (t ≤ x.f0))) t b else 4
theorem may_ups {l : List S40} (h : may l = true) : ups l = true := by
  rw [may_iff] at h
  have key : ∀ m : List S40, (∀ j, 0 < j → j < m.length → (m.getD (j - 1) z40).f0 < (m.getD j z40).f0) → ups m = true := by
    intro m
    induction m with
    | nil => intro _; rfl
    | cons a r ih =>
      intro hm
      cases r with
      | nil => rfl
      | cons b r =>
        have h1 := hm 1 (by omega) (by simp)
        have h2 := ih (fun j h0 hj => by have := hm (j + 1) (by omega) (by simpa using hj); simpa [show j - 1 + 1 = j from by omega] using (by cases j with | zero => omega | succ j => simpa using this))
        simp [ups, h2]; simpa using h1
  refine key l (fun j h0 hj => ?_)
  have := h j hj
  unfold okAt el at this
  simp only [Bool.and_eq_true, Bool.or_eq_true, decide_eq_true_eq] at this
  rcases this.2 with e | e
  · simp at e; omega
  · exact e
theorem lb_find : ∀ (l : List S40) (t : Int), (lb l t < l.length → l.find? (fun x => decide (t ≤ x.f0)) = some (el l (lb l t))) ∧ (¬ lb l t < l.length → l.find? (fun x => decide (t ≤ x.f0)) = none) := by
  intro l t
  induction l with
  | nil => exact ⟨fun h => by simp at h, fun _ => rfl⟩
  | cons a r ih =>
    by_cases h : a.f0 < t
    · have e : lb (a :: r) t = lb r t + 1 := by unfold lb; rw [List.takeWhile_cons, if_pos (by simpa using h)]; rfl
      rw [e, List.find?_cons_of_neg (by simp; omega)]
      refine ⟨fun h1 => ?_, fun h1 => ih.2 (by simpa using h1)⟩
      rw [ih.1 (by simpa using h1)]; unfold el; rw [List.getD_cons_succ]
    · have e : lb (a :: r) t = 0 := by unfold lb; rw [List.takeWhile_cons, if_neg (by simpa using h)]; rfl
      rw [e, List.find?_cons_of_pos (by simp; omega)]
      exact ⟨fun _ => rfl, fun h1 => absurd (by simp) h1⟩

theorem judge_is (l : List S40) (t b : Int) (hn : l.length ≤ 140737488351232) (hu : ups l = true) : Ev (fun k => series_judge.f k l t b) (jd l t b) := by
  have hf := lb_find l t
  unfold series_judge.f
  have hp : series_place.f l t = some ((lb l t : Int), hit l t) := by unfold series_place.f; rw [if_pos hn, if_pos hu]
  rw [hp]; refine ev_some ?_; rw [mayTime_is]; refine ev_some ?_
  by_cases h1 : mayT t = true
  · refine ev_pos h1 ?_
    unfold jd; rw [if_pos h1]
    by_cases h2 : lb l t < l.length
    · rw [hf.1 h2, jf_some]
      by_cases h3 : (el l (lb l t)).f0 = t
      · have hh : hit l t = true := by unfold hit; rw [show l.getD (lb l t) z40 = el l (lb l t) from rfl]; simp [h2, h3]
        rw [hh]
        refine ev_pos rfl (ev_pos (by omega) (ev_pos (by omega) ?_))
        rw [rd_nat, if_pos h3]
        refine ev_step (fun k => rfl) ?_
        by_cases h4 : (el l (lb l t)).f1 = b
        · rw [if_pos h4]; exact ev_pos (by simp [h4]) (ev_now _)
        · rw [if_neg h4]; exact ev_neg (by simp [h4]) (ev_pos rfl (ev_now _))
      · have hh : hit l t = false := by unfold hit; rw [show l.getD (lb l t) z40 = el l (lb l t) from rfl]; simp [h3]
        rw [hh]
        rw [if_neg h3]
        exact ev_neg (by simp) (ev_step (fun k => rfl) (ev_pos (by omega) (ev_now _)))
    · rw [hf.2 h2, jf_none]
      have hh : hit l t = false := by unfold hit; simp [h2]
      rw [hh]
      exact ev_neg (by simp) (ev_step (fun k => rfl) (ev_neg (by omega) (ev_now _)))
  · refine ev_neg h1 ?_; unfold jd; rw [if_neg h1]; exact ev_now _

/-! ### the document's judge -/
theorem ups_el {l : List S40} (h : ups l = true) (i j : Nat) (hij : i < j) (hj : j < l.length) : (el l i).f0 < (el l j).f0 := ups_lt h i j hij hj
theorem find_at (l : List S40) (t : Int) (hu : ups l = true) (j : Nat) (hj : j < l.length) (h0 : ∀ q, q < j → (el l q).f0 < t) (h1 : t ≤ (el l j).f0) : l.find? (fun x => decide (t ≤ x.f0)) = some (el l j) := by
  have hl := lb_at l t j (by omega) h0 (fun _ => h1)
  have := (lb_find l t).1 (by omega)
  rw [hl] at this; exact this
theorem find_no (l : List S40) (t : Int) (h0 : ∀ q, q < l.length → (el l q).f0 < t) : l.find? (fun x => decide (t ≤ x.f0)) = none := by
  have hl := lb_at l t l.length (Nat.le_refl _) h0 (fun h => by omega)
  exact (lb_find l t).2 (by omega)
/-! ### Put -/
/-- A series behind samples that were put, and what each was. -/
def pt : List S40 → List S40 → List S40 × List Int
  | l, [] => (l, [])
  | l, s :: r => let v := jd l s.f0 s.f1; let q := pt (if v = 1 then l ++ [s] else l) r; (q.1, v :: q.2)
theorem pt_cons (l : List S40) (s : S40) (r : List S40) : pt l (s :: r) = ((pt (if jd l s.f0 s.f1 = 1 then l ++ [s] else l) r).1, jd l s.f0 s.f1 :: (pt (if jd l s.f0 s.f1 = 1 then l ++ [s] else l) r).2) := rfl
theorem pt_len : ∀ (r l : List S40), (pt l r).2.length = r.length ∧ (pt l r).1.length ≤ l.length + r.length
  | [], l => ⟨rfl, by simp [pt]⟩
  | s :: r, l => by
    rw [pt_cons]
    have h := pt_len r (if jd l s.f0 s.f1 = 1 then l ++ [s] else l)
    refine ⟨by simp [h.1], ?_⟩
    have h2 := h.2
    by_cases h1 : jd l s.f0 s.f1 = 1
    · rw [if_pos h1] at h2 ⊢; simp at h2 ⊢; omega
    · rw [if_neg h1] at h2 ⊢; simp at h2 ⊢; omega
theorem jd_new {l : List S40} {t b : Int} (h : jd l t b = 1) : mayT t = true ∧ ∀ x ∈ l, x.f0 < t := by
  unfold jd at h
  by_cases hm : mayT t = true
  · rw [if_pos hm] at h
    cases hf : l.find? (fun x => decide (t ≤ x.f0)) with
    | none =>
      refine ⟨hm, fun x hx => ?_⟩
      have := List.find?_eq_none.1 hf x hx
      simp at this; omega
    | some x => rw [hf, jf_some] at h; split at h <;> (try split at h) <;> omega
  · rw [if_neg hm] at h; omega
theorem ups_snoc {l : List S40} {s : S40} (hu : ups l = true) (h : ∀ x ∈ l, x.f0 < s.f0) : ups (l ++ [s]) = true := by
  induction l with
  | nil => rfl
  | cons a r ih =>
    have := ih (ups_tail hu) (fun x hx => h x (List.mem_cons_of_mem _ hx))
    cases r with
    | nil => simp [ups]; exact h a (by simp)
    | cons b r => simp [ups] at hu ⊢; exact ⟨hu.1, by simpa using this⟩
theorem put_step_ups {l : List S40} {s : S40} (hu : ups l = true) : ups (if jd l s.f0 s.f1 = 1 then l ++ [s] else l) = true := by
  split
  · rename_i h; exact ups_snoc hu (jd_new h).2
  · exact hu
theorem el_drop (l : List S40) (i : Nat) (h : i < l.length) : l.drop i = el l i :: l.drop (i + 1) := by
  rw [List.drop_eq_getElem_cons h]; unfold el; rw [List.getD, List.getElem?_eq_getElem h, Option.getD_some]
theorem jd_cases (l : List S40) (t b : Int) : jd l t b = 1 ∨ jd l t b = 2 ∨ jd l t b = 3 ∨ jd l t b = 4 := by
  unfold jd jf; split
  · split
    · exact .inl rfl
    · split
      · split
        · exact .inr (.inl rfl)
        · exact .inr (.inr (.inl rfl))
      · exact .inr (.inr (.inr rfl))
  · exact .inr (.inr (.inr rfl))

theorem put_loop (more : List S40) (hm : more.length ≤ 1000000) : ∀ (d i : Nat) (l : List S40) (v : List Int), i + d = more.length → ups l = true → l.length + d ≤ 3000000 → v.length + d ≤ 3000000 →
    Ev (fun k => series_Put.l0 k l v more (more.length : Int) (i : Int)) ((pt l (more.drop i)).1, v ++ (pt l (more.drop i)).2, 0) := by
  intro d
  induction d with
  | zero =>
    intro i l v hi hu hl hv
    rw [List.drop_eq_nil_of_le (by omega)]
    exact ev_step (fun k => rfl) (ev_neg (by omega) (ev_eq (ev_now _) (by simp [pt])))
  | succ d ih =>
    intro i l v hi hu hl hv
    refine ev_step (fun k => rfl) (ev_pos (by omega) (ev_pos (by omega) (ev_pos (by omega) ?_)))
    rw [rd_nat, el_drop more i (by omega), pt_cons]
    refine ev_bind (judge_is l _ _ (by omega) hu) ?_
    have hu2 := put_step_ups (s := el more i) hu
    by_cases h1 : jd l (el more i).f0 (el more i).f1 = 1
    · rw [if_pos h1] at hu2 ⊢
      refine ev_pos h1 (ev_pos (by omega) (ev_pos (by omega) ?_))
      rw [wrap_nat (show i < more.length by omega) (by omega), h1]
      exact ev_eq (ih (i + 1) (l ++ [el more i]) (v ++ [1]) (by omega) hu2 (by simp; omega) (by simp; omega)) (by simp)
    · rw [if_neg h1] at hu2 ⊢
      refine ev_neg h1 (ev_pos (by omega) ?_)
      rw [wrap_nat (show i < more.length by omega) (by omega)]
      exact ev_eq (ih (i + 1) l (v ++ [jd l (el more i).f0 (el more i).f1]) (by omega) hu2 (by omega) (by simp; omega)) (by simp)
/-- What Put tells. -/
def pu (l more : List S40) : List S40 × List Int × Int := if may l = true then ((pt l more).1, (pt l more).2, 0) else ([], [], 4)
theorem put_is (l more : List S40) (hl : l.length ≤ 1000000) (hm : more.length ≤ 1000000) : Ev (fun k => series_Put.f k l more) (pu l more) := by
  unfold series_Put.f pu
  refine ev_bind (may_is l (by omega)) ?_
  by_cases h : may l = true
  · rw [if_pos h, h]
    refine ev_pos rfl ?_
    rw [show slices_Clone.f l = some l from by unfold slices_Clone.f; rw [if_pos (by omega)]]
    refine ev_some ?_
    exact ev_eq (put_loop more hm more.length 0 l [] (by omega) (may_ups h) (by omega) (by simp; omega)) (by simp)
  · rw [if_neg h]; exact ev_neg h (ev_now _)
def ju (l : List S40) (t b : Int) : Int × Int := if may l = true then (jd l t b, 0) else (0, 4)
theorem Judge_is (l : List S40) (t b : Int) (hl : l.length ≤ 1000000) : Ev (fun k => series_Judge.f k l t b) (ju l t b) := by
  unfold series_Judge.f ju
  refine ev_bind (may_is l (by omega)) ?_
  by_cases h : may l = true
  · rw [if_pos h, h]; exact ev_pos rfl (ev_bind (judge_is l t b (by omega) (may_ups h)) (ev_now _))
  · rw [if_neg h]; exact ev_neg h (ev_now _)
theorem el_snoc_lt {l : List S40} {s : S40} {j : Nat} (h : j < l.length) : el (l ++ [s]) j = el l j := by unfold el; simp only [List.getD]; rw [List.getElem?_append_left h]
theorem el_snoc_eq {l : List S40} {s : S40} : el (l ++ [s]) l.length = s := by unfold el; simp [List.getD]
theorem el_mem {l : List S40} {j : Nat} (h : j < l.length) : el l j ∈ l := by unfold el; rw [List.getD, List.getElem?_eq_getElem h, Option.getD_some]; exact List.getElem_mem _
theorem mem_el {l : List S40} {x : S40} (h : x ∈ l) : ∃ j, j < l.length ∧ el l j = x := by
  obtain ⟨j, hj, hx⟩ := List.mem_iff_getElem.1 h
  exact ⟨j, hj, by unfold el; rw [List.getD, List.getElem?_eq_getElem hj, Option.getD_some, hx]⟩
theorem may_snoc {l : List S40} {s : S40} (h : may l = true) (h1 : mayT s.f0 = true) (h2 : ∀ x ∈ l, x.f0 < s.f0) : may (l ++ [s]) = true := by
  rw [may_iff] at h ⊢
  intro j hj
  simp at hj
  by_cases e : j < l.length
  · have := h j e
    unfold okAt at this ⊢
    rw [el_snoc_lt e, el_snoc_lt (show j - 1 < l.length by omega)]; exact this
  · obtain rfl : j = l.length := by omega
    unfold okAt
    rw [el_snoc_eq]
    by_cases h0 : l.length = 0
    · simp [h1, h0]
    · rw [el_snoc_lt (show l.length - 1 < l.length by omega)]
      have := h2 _ (el_mem (show l.length - 1 < l.length by omega))
      simp [h1, this]
theorem pt_may {l : List S40} (h : may l = true) : ∀ r : List S40, may (pt l r).1 = true := by
  intro r
  induction r generalizing l with
  | nil => exact h
  | cons s r ih =>
    rw [pt_cons]
    refine ih ?_
    split
    · rename_i h1; exact may_snoc h (jd_new h1).1 (jd_new h1).2
    · exact h
theorem awake_is : Ev (fun k => batonlaw22_awake.f k) true := Ev.of batonlaw22_awake.mono (k := 30) (by decide +kernel)

/-! ### more on series that may be -/
theorem mayT_of {l : List S40} (h : may l = true) : ∀ x ∈ l, mayT x.f0 = true := by
  intro x hx
  obtain ⟨j, hj, rfl⟩ := mem_el hx
  have := (may_iff l).1 h j hj
  unfold okAt at this
  simp only [Bool.and_eq_true] at this
  exact this.1
theorem may_mk {l : List S40} (hu : ups l = true) (hm : ∀ x ∈ l, mayT x.f0 = true) : may l = true := by
  rw [may_iff]
  intro j hj
  unfold okAt
  rw [hm _ (el_mem hj)]
  by_cases h0 : j = 0
  · simp [h0]
  · have := ups_el hu (j - 1) j (by omega) hj
    simp [this]
theorem may_cons {s : S40} {r : List S40} (h : may (s :: r) = true) : may r = true ∧ mayT s.f0 = true ∧ ∀ y ∈ r, s.f0 < y.f0 := by
  have hu := may_ups h
  refine ⟨may_mk (ups_tail hu) (fun x hx => mayT_of h x (List.mem_cons_of_mem _ hx)), mayT_of h s (List.mem_cons_self), fun y hy => ?_⟩
  obtain ⟨j, hj, rfl⟩ := mem_el hy
  exact ups_head hu j hj
theorem jd_one {l : List S40} {t b : Int} (hm : mayT t = true) (h : ∀ x ∈ l, x.f0 < t) : jd l t b = 1 := by
  unfold jd; rw [if_pos hm, List.find?_eq_none.2 (fun x hx => by simp; exact h x hx), jf_none]
theorem jd_at {l : List S40} (h : may l = true) {j : Nat} (hj : j < l.length) (b : Int) : jd l (el l j).f0 b = if (el l j).f1 = b then 2 else 3 := by
  unfold jd
  rw [if_pos (mayT_of h _ (el_mem hj)), find_at l _ (may_ups h) j hj (fun q hq => ups_el (may_ups h) q j hq hj) (Int.le_refl _), jf_some, if_pos rfl]
theorem pt_fresh : ∀ (r l : List S40), may r = true → (∀ x ∈ l, ∀ y ∈ r, x.f0 < y.f0) → pt l r = (l ++ r, r.map (fun _ => (1 : Int)))
  | [], l, _, _ => by simp [pt]
  | s :: r, l, h, hlt => by
    obtain ⟨h1, h2, h3⟩ := may_cons h
    have hj : jd l s.f0 s.f1 = 1 := jd_one h2 (fun x hx => hlt x hx s List.mem_cons_self)
    rw [pt_cons, hj, if_pos rfl, pt_fresh r (l ++ [s]) h1 (fun x hx y hy => by
      rcases List.mem_append.1 hx with hx | hx
      · exact hlt x hx y (List.mem_cons_of_mem _ hy)
      · rw [List.mem_singleton.1 hx]; exact h3 y hy)]
    simp
theorem judged_is (l : List S40) (t b v : Int) (hl : l.length ≤ 1000000) (h : may l = true) : Ev (fun k => batonlaw22_judged.f k l t b v) (jd l t b == v) := by
  unfold batonlaw22_judged.f
  refine ev_bind (Judge_is l t b hl) ?_
  unfold ju; rw [if_pos h]
  exact ev_pos rfl (ev_now _)

end Go.Proofs.YtbedpnklnamnhaaDoor.SpecF

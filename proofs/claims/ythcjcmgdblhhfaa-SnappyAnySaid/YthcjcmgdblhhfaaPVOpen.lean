/- Arguments that are slices of parts, opened: what their cells hold, and how long their texts are. No conditions. -/
import Derived.Test.YthcjcmgdblhhfaaPVx0
import Derived.Lib.SmallJoins
import Derived.Deep.Slices
import Derived.SizedLaws
import Derived.ChangeSlices
import Derived.ChangeSame
namespace Go.Proofs.Ythcjcmgdblhhfaa.PV
open Go.RowKit Go.ChangeShapes Go.WideShapes Go.Deep Go.Proofs.YthcjcmgdblhhfaaW.PrintWords
set_option linter.unusedVariables false

theorem list_of {α : Type} {Q : Nat → α → Prop} (n : Nat) (h : ∀ i, i < n → ∃ p, Q i p) : ∃ xs : List α, xs.length = n ∧ ∀ j p, xs[j]? = some p → Q j p := by
  induction n with
  | zero => exact ⟨[], rfl, fun j p e => by simp at e⟩
  | succ n ih =>
    obtain ⟨xs, hl, hx⟩ := ih (fun i hi => h i (by omega))
    obtain ⟨p, hp⟩ := h n (by omega)
    refine ⟨xs ++ [p], by simp [hl], fun j q e => ?_⟩
    by_cases hj : j < xs.length
    · rw [List.getElem?_append_left hj] at e; exact hx j q e
    · rw [List.getElem?_append_right (by omega)] at e
      have : j = n := by
        rcases Nat.lt_or_ge (j - xs.length) 1 with h1 | h1
        · omega
        · rw [List.getElem?_eq_none (by simpa using h1)] at e; cases e
      subst this
      rw [show j - xs.length = 0 from by omega] at e
      simp at e; subst e; exact hp

def WfS (x : S72) : Prop := x.f1.size ≤ 140737488351232 ∧ (Lit.int .i64 x.f2).wf = true ∧ (Lit.int .i64 x.f3).wf = true

section
variable {H : Type} {enc : TypeId × Value → H} {w : World} {base : Nat} {spare : Nat → Bool} {held : Bool}
theorem weights_mem_all {P : Program} {e : TypeId} : ∀ {ds : List (DataW H)} {d : DataW H}, d ∈ ds → ∀ n ∈ d.weights P e, n ∈ DataW.weightsAll P e ds
  | [], _, h, _, _ => by simp at h
  | d0 :: ds, d, h, n, hn => by
    simp only [DataW.weightsAll, List.mem_append]
    rcases List.mem_cons.1 h with rfl | h
    · exact Or.inl hn
    · exact Or.inr (weights_mem_all h n hn)
theorem trod_part {fuel : Nat} {cs : List Value} {x : DataW H × List MemPlace} (h : DataW.trod enc Try.prog w base spare held fuel 72 cs = some x) :
    ∃ s : S72, cs = [.bool s.f0, .string s.f1, .int .i64 s.f2, .int .i64 s.f3] ∧ x.1 = .agg [.lit (.bool s.f0), .lit (.string s.f1.data.toList), .lit (.int .i64 s.f2), .lit (.int .i64 s.f3)] ∧ (Lit.int .i64 s.f2).wf = true ∧ (Lit.int .i64 s.f3).wf = true := by
  obtain ⟨xs, n, _, rfl, hl, hlen, hf⟩ := DataW.trod_struct Try.underlying72 h
  have hl2 : cs.length = 4 := hl.trans (by kernel_rfl)
  match cs, hl2, xs, hlen with
  | [c0, c1, c2, c3], _, [y0, y1, y2, y3], _ =>
    have h0 := hf 0 _ rfl
    have h1 := hf 1 _ rfl
    have h2 := hf 2 _ rfl
    have h3 := hf 3 _ rfl
    obtain ⟨a, e0, g0⟩ := DataW.trod_bool Try.underlying4 (cs := [c0]) h0
    obtain ⟨b, e1, g1, _⟩ := DataW.trod_string Try.underlying9 (cs := [c1]) h1
    obtain ⟨c, e2, g2, w2⟩ := DataW.trod_int Try.underlying3 (cs := [c2]) h2
    obtain ⟨d, e3, g3, w3⟩ := DataW.trod_int Try.underlying3 (cs := [c3]) h3
    cases e0; cases e1; cases e2; cases e3
    subst g0 g1 g2 g3
    exact ⟨⟨a, b, c, d⟩, rfl, rfl, w2, w3⟩

theorem open_rows39 {A : Option Addr} {len cap : Nat} {d : DataW H} {ps : List MemPlace} {ts : List TypeId} {ds : List (DataW H)} {j : Nat}
    (hsz : (DataW.weightsEach Try.prog ts ds).all (· ≤ reachBytes) = true) (ht : ts[j]? = some 39) (hd : ds[j]? = some d)
    (h : DataW.Trod enc Try.prog w base spare held 39 (.slice A len cap) d ps) :
    ∃ l : List S72, l.length = len ∧ len ≤ cap ∧ len ≤ maxLen ∧ Kd.C k72 w A len l ∧ (∀ x ∈ l, WfS x) ∧ len * 40 ≤ 140737488351232 := by
  obtain ⟨fuel, hf⟩ := h
  rcases open_slice Try.underlying39 hf with ⟨hcs, _⟩ | ⟨a, l, c, m, n, D, Pl, hcs, _, hl, hc, hm, hx, hi⟩
  · simp [Value.cells] at hcs
    obtain ⟨rfl, rfl, rfl⟩ := hcs
    exact ⟨[], rfl, by omega, by simp [maxLen], Kd.C_nil _ _, fun x hx => by simp at hx, by omega⟩
  · simp [Value.cells] at hcs
    obtain ⟨rfl, rfl, rfl⟩ := hcs
    obtain ⟨rfl, _⟩ := Prod.mk.inj hx
    have hlm : len ≤ m := by rw [hm]; split <;> omega
    have z := sized_slice hsz ht hd Try.underlying39
    have hb : Try.prog.bytesOf 72 = 40 := by kernel_rfl
    have hcl : Try.prog.cellsOf 72 = 4 := by kernel_rfl
    rw [hb] at z
    simp only [List.length_map, List.length_range] at z
    obtain ⟨xs, hxl, hxs⟩ := list_of (Q := fun i (s : S72) => (w.cell? (a.add (i * 4)) = some (.bool s.f0) ∧ w.cell? (a.add (i * 4 + 1)) = some (.string s.f1) ∧ w.cell? (a.add (i * 4 + 2)) = some (.int .i64 s.f2) ∧ w.cell? (a.add (i * 4 + 3)) = some (.int .i64 s.f3)) ∧ WfS s) len (fun i hil => by
      obtain ⟨cs', hcs', ht'⟩ := hi i (by omega)
      rw [hcl] at hcs'
      obtain ⟨_, _, hat⟩ := World.cells?_some hcs'
      obtain ⟨s, rfl, hD, w2, w3⟩ := trod_part ht'
      have h0 := hat 0 (by omega)
      have h1 := hat 1 (by omega)
      have h2 := hat 2 (by omega)
      have h3 := hat 3 (by omega)
      rw [Go.Deep.add_add] at h0 h1 h2 h3
      refine ⟨s, ⟨h0, h1, h2, h3⟩, ?_, w2, w3⟩
      have hmem := weights_mem_all (P := Try.prog) (e := 72) (List.mem_map.2 ⟨i, List.mem_range.2 hil, rfl⟩ : D i ∈ (List.range len).map fun i => D i) s.f1.data.toList.length (by
        have hD' : D i = .agg [.lit (.bool s.f0), .lit (.string s.f1.data.toList), .lit (.int .i64 s.f2), .lit (.int .i64 s.f3)] := hD
        rw [hD']
        unfold DataW.weights
        rw [Try.underlying72]
        simp [DataW.weightsEach, DataW.weights])
      have hall := List.all_eq_true.1 hsz _ (DataW.weights_mem_each ht hd s.f1.data.toList.length (by
        unfold DataW.weights
        rw [Try.underlying39]
        exact List.mem_cons_of_mem _ (List.mem_append.2 (Or.inl hmem))))
      have e : s.f1.data.toList.length = s.f1.size := by rw [Array.length_toList]; rfl
      rw [e] at hall
      have hall2 : s.f1.size ≤ reachBytes := by simpa using hall
      exact hall2)
    refine ⟨xs, hxl, hl, by omega, ⟨hxl, by simp [maxLen] at hc; omega, fun _ => ⟨a, rfl, fun j p hj => ⟨[.bool p.f0, .string p.f1, .int .i64 p.f2, .int .i64 p.f3], rfl, k72_mk _ _, fun i u hu => ?_⟩⟩⟩, fun x hx => ?_, by rw [show reachBytes = 140737488351232 from rfl] at z; omega⟩
    · obtain ⟨⟨h0, h1, h2, h3⟩, _⟩ := hxs j p hj
      match i, hu with
      | 0, hu => cases hu; exact h0
      | 1, hu => cases hu; exact h1
      | 2, hu => cases hu; exact h2
      | 3, hu => cases hu; exact h3
      | i + 4, hu => simp at hu
    · obtain ⟨i, hi2, he⟩ := List.mem_iff_getElem.1 hx
      exact (hxs i x (by rw [List.getElem?_eq_getElem hi2, he])).2
end
end Go.Proofs.Ythcjcmgdblhhfaa.PV

/- The machine side of these statements: what each Go function computes as a plain function, and that its call computes just that. Written by a program of mine (wip/drive.py). No conditions. -/
import Derived.Test.YtbedpnklnamnhaaDoorPFx0
import Derived.Lib.SmallJoins
import Derived.Deep.Slices
import Derived.SizedLaws
import Derived.ChangeSlices
import Derived.ChangeSame
namespace Go.Proofs.YtbedpnklnamnhaaDoor.PF
open Go.RowKit Go.ChangeShapes Go.WideShapes Go.Deep Go.Proofs.YtbedpnklnamnhaaDoorW.PrintWords
set_option linter.unusedVariables false

theorem list_of {α : Type} {Q : Nat → α → Prop} (n : Nat) (h : ∀ i, i < n → ∃ p, Q i p) : ∃ xs : List α, xs.length = n ∧ ∀ j p, xs[j]? = some p → Q j p := by
  induction n with
  | zero => exact ⟨[], rfl, fun j p e => by simp at e⟩
  | succ n ih =>
    obtain ⟨xs, hl, hx⟩ := ih (fun i hi => h i (by omega))
    obtain ⟨p, hp⟩ := h n (by omega)
    refine ⟨xs ++ [p], by simp [hl], fun j q e => ?_⟩
    by_cases hj : j < xs.length
    · rw [List.getElem?_append_left hj] at e; exact hx j q e
    · rw [List.getElem?_append_right (by omega)] at e
      have : j = n := by
        rcases Nat.lt_or_ge (j - xs.length) 1 with h1 | h1
        · omega
        · rw [List.getElem?_eq_none (by simpa using h1)] at e; cases e
      subst this
      rw [show j - xs.length = 0 from by omega] at e
      simp at e; subst e; exact hp

def WfS (x : S40) : Prop := (Lit.int .i64 x.f0).wf = true ∧ (Lit.int .u64 x.f1).wf = true

section
variable {H : Type} {enc : TypeId × Value → H} {w : World} {base : Nat} {spare : Nat → Bool} {held : Bool}
theorem trod_sample {fuel : Nat} {cs : List Value} {x : DataW H × List MemPlace} (h : DataW.trod enc Tryd.prog w base spare held fuel 40 cs = some x) : ∃ s : S40, cs = [.int .i64 s.f0, .int .u64 s.f1] ∧ WfS s := by
  obtain ⟨y0, y1, n, _, hl, h0, h1⟩ := trod_struct2 Tryd.underlying40 h
  have hl2 : cs.length = 2 := hl.trans (by kernel_rfl)
  match cs, hl2 with
  | [c0, c1], _ =>
    obtain ⟨a, e0, _, wa⟩ := DataW.trod_int Tryd.underlying2 (cs := [c0]) h0
    obtain ⟨b, e1, _, wb⟩ := DataW.trod_int Tryd.underlying38 (cs := [c1]) h1
    cases e0; cases e1
    exact ⟨⟨a, b⟩, rfl, wa, wb⟩

theorem open_rows22 {A : Option Addr} {len cap : Nat} {d : DataW H} {ps : List MemPlace} {ts : List TypeId} {ds : List (DataW H)} {j : Nat}
    (hsz : (DataW.weightsEach Tryd.prog ts ds).all (· ≤ reachBytes) = true) (ht : ts[j]? = some 22) (hd : ds[j]? = some d)
    (h : DataW.Trod enc Tryd.prog w base spare held 22 (.slice A len cap) d ps) :
    ∃ l : List S40, l.length = len ∧ len ≤ cap ∧ len ≤ maxLen ∧ Kd.C k40 w A len l ∧ (∀ x ∈ l, WfS x) ∧ len * 16 ≤ 140737488351232 := by
  obtain ⟨fuel, hf⟩ := h
  rcases open_slice Tryd.underlying22 hf with ⟨hcs, _⟩ | ⟨a, l, c, m, n, D, Pl, hcs, _, hl, hc, hm, hx, hi⟩
  · simp [Value.cells] at hcs
    obtain ⟨rfl, rfl, rfl⟩ := hcs
    exact ⟨[], rfl, by omega, by simp [maxLen], Kd.C_nil _ _, fun x hx => by simp at hx, by omega⟩
  · simp [Value.cells] at hcs
    obtain ⟨rfl, rfl, rfl⟩ := hcs
    obtain ⟨rfl, _⟩ := Prod.mk.inj hx
    have hlm : len ≤ m := by rw [hm]; split <;> omega
    have z := sized_slice hsz ht hd Tryd.underlying22
    have hb : Tryd.prog.bytesOf 40 = 16 := by kernel_rfl
    have hcl : Tryd.prog.cellsOf 40 = 2 := by kernel_rfl
    rw [hb] at z
    simp only [List.length_map, List.length_range] at z
    obtain ⟨xs, hxl, hxs⟩ := list_of (Q := fun i (s : S40) => w.cell? (a.add (i * 2)) = some (.int .i64 s.f0) ∧ w.cell? (a.add (i * 2 + 1)) = some (.int .u64 s.f1) ∧ WfS s) len (fun i hil => by
      obtain ⟨cs', hcs', ht'⟩ := hi i (by omega)
      rw [hcl] at hcs'
      obtain ⟨_, _, hat⟩ := World.cells?_some hcs'
      obtain ⟨s, rfl, hw⟩ := trod_sample ht'
      have h0 := hat 0 (by omega)
      have h1 := hat 1 (by omega)
      rw [Go.Deep.add_add] at h0 h1
      exact ⟨s, h0, h1, hw⟩)
    refine ⟨xs, hxl, hl, by omega, ⟨hxl, by simp [maxLen] at hc; omega, fun _ => ⟨a, rfl, fun j p hj => ⟨[.int .i64 p.f0, .int .u64 p.f1], rfl, k40_mk _ _, fun i u hu => ?_⟩⟩⟩, fun x hx => ?_, by rw [show reachBytes = 140737488351232 from rfl] at z; omega⟩
    · obtain ⟨h0, h1, _⟩ := hxs j p hj
      match i, hu with
      | 0, hu => cases hu; exact h0
      | 1, hu => cases hu; exact h1
      | i + 2, hu => simp at hu
    · obtain ⟨i, hi2, he⟩ := List.mem_iff_getElem.1 hx
      exact (hxs i x (by rw [List.getElem?_eq_getElem hi2, he])).2.2
theorem open_val40 {rr : Reach} {b0 : Nat} {v : Value} {d : DataW H} {p : List MemPlace} (hv : Value.okWide Tryd.prog w rr b0 40 v) (h : DataW.Trod enc Tryd.prog w base spare held 40 v d p) :
    ∃ x : S40, v = .agg #[.int .i64 x.f0, .int .u64 x.f1] ∧ WfS x := by
  obtain ⟨v0, v1, y0, y1, n, rfl, _, _, h0, h1⟩ := Go.Joins.open_agg2 Tryd.underlying40 (by kernel_rfl) (by kernel_rfl) hv h
  obtain ⟨a, e0, _, wa⟩ := DataW.trod_int Tryd.underlying2 (cs := [v0]) h0
  obtain ⟨b, e1, _, wb⟩ := DataW.trod_int Tryd.underlying38 (cs := [v1]) h1
  cases e0; cases e1
  exact ⟨⟨a, b⟩, rfl, wa, wb⟩
end
end Go.Proofs.YtbedpnklnamnhaaDoor.PF

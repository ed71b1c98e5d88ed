/- SeriesNames: the row: the four laid tables give the walk what it reads of them. -/
import Derived.Test.YtbedpnklnamnhaaDoorRows
import Derived.Test.YtbedpnklnamnhaaDoorPGx16
import Derived.ProofKit
import Derived.LaidMore
import Derived.OpenShut
import Derived.ChangeArms
import Derived.Lib.LaidTab
import Derived.Stop.Joined
import Derived.Stop.LaidErr
import Derived.MakeChecks
namespace Go.Proofs.YtbedpnklnamnhaaDoor
open Go.ChangeShapes Go.WideShapes Go.ChangeAt Go.RowKit
set_option linter.unusedVariables false
namespace Rows
/-- The list of the rows: what the four tables read as. -/
def laid4 : List (String × DataW Unit) := [("math/bits.deBruijn32tab", laid_math_bits_deBruijn32tab), ("math/bits.deBruijn64tab", laid_math_bits_deBruijn64tab), ("internal/strconv.uint64pow10", laid_internal_strconv_uint64pow10), ("baton/series.words", laid_baton_series_words)]
end Rows
theorem g_words : Tryd.prog.globalNamed "baton/series.words" = some 0 := by kernel_rfl
theorem t_words : (Tryd.prog.globals[0]?).map (·.type) = some 55 := by kernel_rfl
theorem g_pow : Tryd.prog.globalNamed "internal/strconv.uint64pow10" = some 1 := by kernel_rfl
theorem t_pow : (Tryd.prog.globals[1]?).map (·.type) = some 74 := by kernel_rfl
theorem pow_is : (Rows.laid_internal_strconv_uint64pow10 : DataW Unit) = Lib.tabData .u64 Lib.pow10Tab := by kernel_rfl
theorem words_cell {W : World} {g : Nat} {cs : Array Value} (hv : W.var? Tryd.prog "baton/series.words" = some cs) (i : Nat) : W.cell? ⟨0, i, none⟩ = cs[i]? := World.var?_cell g_words hv i
/-- The five words, cell for cell. -/
theorem words_of {W : World} {fuel : Nat} {p : List MemPlace} {cs : Array Value}
    (hd : DataW.trod (fun _ => ()) Tryd.prog W 0 (fun _ => true) false fuel 55 cs.toList = some ((Rows.laid_baton_series_words : DataW Unit), p)) :
    cs[1]? = some (.string ⟨#[110, 101, 119]⟩) ∧ cs[2]? = some (.string ⟨#[107, 110, 111, 119, 110]⟩) ∧ cs[3]? = some (.string ⟨#[111, 116, 104, 101, 114]⟩) ∧ cs[4]? = some (.string ⟨#[108, 97, 116, 101]⟩) := by
  have c9 : Tryd.prog.cellsOf 9 = 1 := by kernel_rfl
  obtain ⟨xs, m, rfl, hx, hlen, hn, hel⟩ := DataW.trod_array Tryd.underlying55 hd
  simp only [Prod.mk.injEq] at hx
  obtain ⟨hx1, _⟩ := hx
  have one : ∀ (i : Nat) (l : List UInt8), i < 5 → (xs.map (·.1))[i]? = some (DataW.lit (.string l)) → cs[i]? = some (.string ⟨l.toArray⟩) := by
    intro i l hi hl
    have h0 := hel i hi
    rw [c9, Nat.mul_one] at h0
    cases hxi : xs[i]? with
    | none => simp [hxi] at hl
    | some x =>
      rw [hxi] at h0
      obtain ⟨s, e1, rfl, _⟩ := DataW.trod_string Tryd.underlying9 h0
      simp only [List.getElem?_map, hxi, Option.map_some, Option.some.injEq, DataW.lit.injEq, Lit.string.injEq] at hl
      subst hl
      have e2 := congrArg (·[0]?) e1
      have e3 : cs.toList[i]? = some (.string s) := by simpa [List.getElem?_take, List.getElem?_drop] using e2
      rw [← Array.getElem?_toList, e3]
  have hm : (DataW.agg (xs.map (·.1)) : DataW Unit) = .agg [.lit (.string []), .lit (.string [110, 101, 119]), .lit (.string [107, 110, 111, 119, 110]), .lit (.string [111, 116, 104, 101, 114]), .lit (.string [108, 97, 116, 101])] := hx1.symm
  have hm' := DataW.agg.inj hm
  exact ⟨one 1 _ (by decide) (by rw [hm']; rfl), one 2 _ (by decide) (by rw [hm']; rfl), one 3 _ (by decide) (by rw [hm']; rfl), one 4 _ (by decide) (by rw [hm']; rfl)⟩
/-- What the rows' condition gives the walks. -/
theorem vars_of {W : World} (h : laidMetH Tryd.prog Rows.laid4 W) : PG.VarsG W := by
  rw [MakeChecks.laidMetH_plain _ _ _ (by kernel_rfl)] at h
  have h1 := laidMet.tail (laidMet.tail h)
  have h2 := laidMet.tail h1
  rw [pow_is] at h1
  have ht := Lib.tabIs_of_head g_pow t_pow Tryd.underlying74 Tryd.underlying38 (by kernel_rfl) (by kernel_rfl) h1
  obtain ⟨ps, ⟨g, t, cs, fuel, p, q, hg, ht0, hv, hd, _, _⟩, _⟩ := h2
  obtain rfl := Option.some.inj (g_words.symm.trans hg)
  obtain rfl := Option.some.inj (t_words.symm.trans ht0)
  obtain ⟨w1, w2, w3, w4⟩ := words_of hd
  refine ⟨ht, ?_, ?_, ?_, ?_⟩
  · rw [World.var?_cell g_words hv]; exact w1
  · rw [World.var?_cell g_words hv]; exact w2
  · rw [World.var?_cell g_words hv]; exact w3
  · rw [World.var?_cell g_words hv]; exact w4
/-- The door's own heap meets the condition. -/
theorem door_met (os : Os) (args : Array Value) : laidMetH Tryd.prog Rows.laid4 ((World.doorLaid Tryd.prog 4000 os).forCall (fun _ _ => 0) ⟨#[], args, []⟩).memory :=
  laidMetH_of_parts3 (fuel := 8) (laidMet_of_run' 8 (by kernel_rfl) (by kernel_rfl)) (by kernel_rfl) (by kernel_rfl)
#print axioms vars_of
#print axioms door_met
end Go.Proofs.YtbedpnklnamnhaaDoor

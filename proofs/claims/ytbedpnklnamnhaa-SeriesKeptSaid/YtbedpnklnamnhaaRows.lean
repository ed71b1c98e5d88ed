/-
  No cell of these rows narrows 'for every input' (looked for: loops, veiled, ifaces, maps, wideKeys, modest, calm, conditions, laid).
  DERIVED. THE GIVEN ROWS OF THIS SEAT. 6 by the template 'for every input the law returns true; each argument reads behind the call as it read before'; 0 by the template 'total and deterministic' (their statements: YtbedpnklnamnhaaTotals.lean).
  GIVEN WITH THE SEED: the statements are not yours to turn. If you find one false, say at which input.
  Laid BY PROGRAM, IN A SANDBOX (cutbox-rows.mjs): the forced cells as the released guide's own fill.sh prints them over the translation d5769bf641fae117… (all of the seat's roots in one cut). By AI agents, Wed Nov 11 2026. No macro, syntax, notation, axiom, sorry.
-/
import Derived.Test.YtbedpnklnamnhaaChecked
import GoSem.Claim
import GoSem.ClaimJoined
import GoSem.ClaimMapViews
import Derived.JoinedTies
import Derived.KernelRfl
namespace Go.Proofs.Ytbedpnklnamnhaa
/- THE CELL 'sum', in the pinned program and in every row, IS THE sha256 OF THE DUMP (.gsa) THAT YtbedpnklnamnhaaProg.lean LOADS. Nothing in Lean hashes anything: it is a label: what it is worth is what the hold of that sum in a sandbox is worth. -/
noncomputable def Try.pinned : Pinned := { name := "ytbedpnklnamnhaa", sum := "d5769bf641fae117d27fbb146b700c90f4e6e9d70a142badcc89aebf4ccea24c", checked := Try.checked }
namespace Rows
def none {H : Type} : Left H := { results := [], args := [] }

/-- 'batonlaw22.SeriesPuts': WHATEVER THE INPUT: true; the input reads as it did. -/
def seriesPutsSpec : ChangeSpec := { name := "seriesPuts", fn := fun _ => fun
  | [d1, d2, d3] => { results := [.lit (.bool true)], args := [d1, d2, d3] }
  | _ => none }
def seriesPutsRow : OpenClaim := { program := "ytbedpnklnamnhaa", sum := "d5769bf641fae117d27fbb146b700c90f4e6e9d70a142badcc89aebf4ccea24c", func := "baton/batonlaw22.SeriesPuts", spec := "seriesPuts", unfollowed := true, recurses := true, apart := false }
def SeriesPutsSaid : Prop := seriesPutsRow.holds Try.pinned (OpenSpec.ofChange seriesPutsSpec)

/-- ITS FALSE NEIGHBOUR: 'it returns false'. Refute it at one input. -/
def seriesPutsWrong : ChangeSpec := { name := "seriesPuts", fn := fun _ => fun
  | [d1, d2, d3] => { results := [.lit (.bool false)], args := [d1, d2, d3] }
  | _ => none }
def SeriesPutsWrongFalsely : Prop := seriesPutsRow.holds Try.pinned (OpenSpec.ofChange seriesPutsWrong)

/-- 'batonlaw22.SeriesParts': WHATEVER THE INPUT: true; the input reads as it did. -/
def seriesPartsSpec : ChangeSpec := { name := "seriesParts", fn := fun _ => fun
  | [d1, d2, d3] => { results := [.lit (.bool true)], args := [d1, d2, d3] }
  | _ => none }
def seriesPartsRow : OpenClaim := { program := "ytbedpnklnamnhaa", sum := "d5769bf641fae117d27fbb146b700c90f4e6e9d70a142badcc89aebf4ccea24c", func := "baton/batonlaw22.SeriesParts", spec := "seriesParts", unfollowed := true, recurses := true, apart := false }
def SeriesPartsSaid : Prop := seriesPartsRow.holds Try.pinned (OpenSpec.ofChange seriesPartsSpec)

/-- ITS FALSE NEIGHBOUR: 'it returns false'. Refute it at one input. -/
def seriesPartsWrong : ChangeSpec := { name := "seriesParts", fn := fun _ => fun
  | [d1, d2, d3] => { results := [.lit (.bool false)], args := [d1, d2, d3] }
  | _ => none }
def SeriesPartsWrongFalsely : Prop := seriesPartsRow.holds Try.pinned (OpenSpec.ofChange seriesPartsWrong)

/-- 'batonlaw22.SeriesAgain': WHATEVER THE INPUT: true; the input reads as it did. -/
def seriesAgainSpec : ChangeSpec := { name := "seriesAgain", fn := fun _ => fun
  | [d1, d2, d3] => { results := [.lit (.bool true)], args := [d1, d2, d3] }
  | _ => none }
def seriesAgainRow : OpenClaim := { program := "ytbedpnklnamnhaa", sum := "d5769bf641fae117d27fbb146b700c90f4e6e9d70a142badcc89aebf4ccea24c", func := "baton/batonlaw22.SeriesAgain", spec := "seriesAgain", unfollowed := true, recurses := true, apart := false }
def SeriesAgainSaid : Prop := seriesAgainRow.holds Try.pinned (OpenSpec.ofChange seriesAgainSpec)

/-- ITS FALSE NEIGHBOUR: 'it returns false'. Refute it at one input. -/
def seriesAgainWrong : ChangeSpec := { name := "seriesAgain", fn := fun _ => fun
  | [d1, d2, d3] => { results := [.lit (.bool false)], args := [d1, d2, d3] }
  | _ => none }
def SeriesAgainWrongFalsely : Prop := seriesAgainRow.holds Try.pinned (OpenSpec.ofChange seriesAgainWrong)

/-- 'batonlaw22.SeriesRises': WHATEVER THE INPUT: true; the input reads as it did. -/
def seriesRisesSpec : ChangeSpec := { name := "seriesRises", fn := fun _ => fun
  | [d1, d2, d3, d4] => { results := [.lit (.bool true)], args := [d1, d2, d3, d4] }
  | _ => none }
def seriesRisesRow : OpenClaim := { program := "ytbedpnklnamnhaa", sum := "d5769bf641fae117d27fbb146b700c90f4e6e9d70a142badcc89aebf4ccea24c", func := "baton/batonlaw22.SeriesRises", spec := "seriesRises", unfollowed := true, recurses := true, apart := false }
def SeriesRisesSaid : Prop := seriesRisesRow.holds Try.pinned (OpenSpec.ofChange seriesRisesSpec)

/-- ITS FALSE NEIGHBOUR: 'it returns false'. Refute it at one input. -/
def seriesRisesWrong : ChangeSpec := { name := "seriesRises", fn := fun _ => fun
  | [d1, d2, d3, d4] => { results := [.lit (.bool false)], args := [d1, d2, d3, d4] }
  | _ => none }
def SeriesRisesWrongFalsely : Prop := seriesRisesRow.holds Try.pinned (OpenSpec.ofChange seriesRisesWrong)

/-- 'batonlaw22.SeriesJoins': WHATEVER THE INPUT: true; the input reads as it did. -/
def seriesJoinsSpec : ChangeSpec := { name := "seriesJoins", fn := fun _ => fun
  | [d1, d2, d3, d4] => { results := [.lit (.bool true)], args := [d1, d2, d3, d4] }
  | _ => none }
def seriesJoinsRow : OpenClaim := { program := "ytbedpnklnamnhaa", sum := "d5769bf641fae117d27fbb146b700c90f4e6e9d70a142badcc89aebf4ccea24c", func := "baton/batonlaw22.SeriesJoins", spec := "seriesJoins", inPlace := ["slices.overlaps[baton/api.Sample]"], unfollowed := true, recurses := true, apart := false }
def SeriesJoinsSaid : Prop := seriesJoinsRow.holds Try.pinned (OpenSpec.ofChange seriesJoinsSpec)

/-- ITS FALSE NEIGHBOUR: 'it returns false'. Refute it at one input. -/
def seriesJoinsWrong : ChangeSpec := { name := "seriesJoins", fn := fun _ => fun
  | [d1, d2, d3, d4] => { results := [.lit (.bool false)], args := [d1, d2, d3, d4] }
  | _ => none }
def SeriesJoinsWrongFalsely : Prop := seriesJoinsRow.holds Try.pinned (OpenSpec.ofChange seriesJoinsWrong)

/-- 'batonlaw22.SeriesKept': WHATEVER THE INPUT: true; the input reads as it did. -/
def seriesKeptSpec : ChangeSpec := { name := "seriesKept", fn := fun _ => fun
  | [d1, d2] => { results := [.lit (.bool true)], args := [d1, d2] }
  | _ => none }
def seriesKeptRow : OpenClaim := { program := "ytbedpnklnamnhaa", sum := "d5769bf641fae117d27fbb146b700c90f4e6e9d70a142badcc89aebf4ccea24c", func := "baton/batonlaw22.SeriesKept", spec := "seriesKept", inPlace := ["slices.overlaps[baton/api.Sample]"], unfollowed := true, recurses := true, apart := false }
def SeriesKeptSaid : Prop := seriesKeptRow.holds Try.pinned (OpenSpec.ofChange seriesKeptSpec)

/-- ITS FALSE NEIGHBOUR: 'it returns false'. Refute it at one input. -/
def seriesKeptWrong : ChangeSpec := { name := "seriesKept", fn := fun _ => fun
  | [d1, d2] => { results := [.lit (.bool false)], args := [d1, d2] }
  | _ => none }
def SeriesKeptWrongFalsely : Prop := seriesKeptRow.holds Try.pinned (OpenSpec.ofChange seriesKeptWrong)

/- THE SECOND FORM. 'bulk': how many values and letters a reading holds, each counted each time it is reached (what is shared counts as often as it is met; a slice's spare places count too). A statement '..UptoSaid' is the law's where the arguments, and the package variables that the reading takes, are together of bulk at most 1048576: NARROWER than '..Said'. Prove '..Said' where nothing that the law and all that it calls make is longer than what came in: it says more and counts as full. Else prove '..UptoSaid'. A law counts once. -/
mutual
def uptoBulk {H : Type} : DataW H → Nat
  | .lit (.string bytes) => bytes.length + 1
  | .lit _ => 1
  | .nil => 1
  | .ptr d => uptoBulk d + 1
  | .slice elems spare => uptoBulkAll elems + uptoBulkAll spare + 1
  | .agg parts => uptoBulkAll parts + 1
  | .iface _ d => uptoBulk d + 1
  | .map entries => uptoBulkEntries entries + 1
  | .held _ => 1
def uptoBulkAll {H : Type} : List (DataW H) → Nat
  | [] => 0
  | d :: r => uptoBulk d + uptoBulkAll r
def uptoBulkEntries {H : Type} : List (Lit × DataW H) → Nat
  | [] => 0
  | x :: r => uptoBulkEntry x + uptoBulkEntries r
def uptoBulkEntry {H : Type} : Lit × DataW H → Nat
  | (.string bytes, d) => bytes.length + uptoBulk d + 1
  | (_, d) => uptoBulk d + 1
 end
def uptoSmall : (H : Type) → List (DataW H) → Bool := fun _ ds => decide (uptoBulkAll ds ≤ 1048576)
def OpenSpec.upto (s : _root_.Go.ChangeSpec) : _root_.Go.OpenSpec := { _root_.Go.OpenSpec.ofChange s with cond := some uptoSmall }

/-- 'batonlaw22.SeriesPuts', WHERE WHAT IT READS IS OF BULK AT MOST 1048576: true; the input reads as it did. -/
def seriesPutsUptoRow : OpenClaim := { program := "ytbedpnklnamnhaa", sum := "d5769bf641fae117d27fbb146b700c90f4e6e9d70a142badcc89aebf4ccea24c", func := "baton/batonlaw22.SeriesPuts", spec := "seriesPuts", unfollowed := true, recurses := true, apart := false, narrowed := true }
def SeriesPutsUptoSaid : Prop := seriesPutsUptoRow.holds Try.pinned (OpenSpec.upto seriesPutsSpec)

/-- 'batonlaw22.SeriesParts', WHERE WHAT IT READS IS OF BULK AT MOST 1048576: true; the input reads as it did. -/
def seriesPartsUptoRow : OpenClaim := { program := "ytbedpnklnamnhaa", sum := "d5769bf641fae117d27fbb146b700c90f4e6e9d70a142badcc89aebf4ccea24c", func := "baton/batonlaw22.SeriesParts", spec := "seriesParts", unfollowed := true, recurses := true, apart := false, narrowed := true }
def SeriesPartsUptoSaid : Prop := seriesPartsUptoRow.holds Try.pinned (OpenSpec.upto seriesPartsSpec)

/-- 'batonlaw22.SeriesAgain', WHERE WHAT IT READS IS OF BULK AT MOST 1048576: true; the input reads as it did. -/
def seriesAgainUptoRow : OpenClaim := { program := "ytbedpnklnamnhaa", sum := "d5769bf641fae117d27fbb146b700c90f4e6e9d70a142badcc89aebf4ccea24c", func := "baton/batonlaw22.SeriesAgain", spec := "seriesAgain", unfollowed := true, recurses := true, apart := false, narrowed := true }
def SeriesAgainUptoSaid : Prop := seriesAgainUptoRow.holds Try.pinned (OpenSpec.upto seriesAgainSpec)

/-- 'batonlaw22.SeriesRises', WHERE WHAT IT READS IS OF BULK AT MOST 1048576: true; the input reads as it did. -/
def seriesRisesUptoRow : OpenClaim := { program := "ytbedpnklnamnhaa", sum := "d5769bf641fae117d27fbb146b700c90f4e6e9d70a142badcc89aebf4ccea24c", func := "baton/batonlaw22.SeriesRises", spec := "seriesRises", unfollowed := true, recurses := true, apart := false, narrowed := true }
def SeriesRisesUptoSaid : Prop := seriesRisesUptoRow.holds Try.pinned (OpenSpec.upto seriesRisesSpec)

/-- 'batonlaw22.SeriesJoins', WHERE WHAT IT READS IS OF BULK AT MOST 1048576: true; the input reads as it did. -/
def seriesJoinsUptoRow : OpenClaim := { program := "ytbedpnklnamnhaa", sum := "d5769bf641fae117d27fbb146b700c90f4e6e9d70a142badcc89aebf4ccea24c", func := "baton/batonlaw22.SeriesJoins", spec := "seriesJoins", inPlace := ["slices.overlaps[baton/api.Sample]"], unfollowed := true, recurses := true, apart := false, narrowed := true }
def SeriesJoinsUptoSaid : Prop := seriesJoinsUptoRow.holds Try.pinned (OpenSpec.upto seriesJoinsSpec)

/-- 'batonlaw22.SeriesKept', WHERE WHAT IT READS IS OF BULK AT MOST 1048576: true; the input reads as it did. -/
def seriesKeptUptoRow : OpenClaim := { program := "ytbedpnklnamnhaa", sum := "d5769bf641fae117d27fbb146b700c90f4e6e9d70a142badcc89aebf4ccea24c", func := "baton/batonlaw22.SeriesKept", spec := "seriesKept", inPlace := ["slices.overlaps[baton/api.Sample]"], unfollowed := true, recurses := true, apart := false, narrowed := true }
def SeriesKeptUptoSaid : Prop := seriesKeptUptoRow.holds Try.pinned (OpenSpec.upto seriesKeptSpec)

end Rows
end Go.Proofs.Ytbedpnklnamnhaa

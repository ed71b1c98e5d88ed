/-
  DERIVED. GIVEN WITH THE SEED: THE CARDS: each row of YtbedpnklnamnhaaDoorRows.lean that lists a variable, with what it lists TIED to the program's text (the seventh form; the later family's looks); each row that meets fmt, with fmt's text TOLD by the authors' own Lean function (tested against real Go, not proved from fmt's source: count such statements apart). THE CARD IS WHAT COUNTS. Prove the row's statement (the work); the ties are given (YtbedpnklnamnhaaDoorTie.lean); close each card by the builder's one call (the guide's Derived/Test/ToyasCard.lean, 'card_holds'). Laid BY PROGRAM, IN A SANDBOX (cutbox-door.mjs). By AI agents, Wed Nov 11 2026. No macro, syntax, notation, axiom, sorry.
-/
import Derived.Test.YtbedpnklnamnhaaDoorRows
import GoSem.ClaimSeven
namespace Go.Proofs.YtbedpnklnamnhaaDoor
namespace Rows

/-- THE TIED CARD OF 'batonlaw22.SeriesPicks'. -/
def seriesPicksCard : Claim7 := { stood := { row := seriesPicksRow, standIns := [], harness := (true, "32d340ab83efc2cea71cc39317df558a3b5aaa98507396094446de59cde1f111"), looks := false }, kinds := [], alts := [], laidByText := true, laidKinds := [.data, .data, .data, .data], laidTests := true, laidLooks := .later }
def SeriesPicksCardSaid : Prop := Claim7.holds Tryd.pinned (.plain (OpenSpec.ofChange seriesPicksSpec)) seriesPicksCard

/-- THE TIED CARD OF 'batonlaw22.SeriesNames'. -/
def seriesNamesCard : Claim7 := { stood := { row := seriesNamesRow, standIns := [], harness := (true, "32d340ab83efc2cea71cc39317df558a3b5aaa98507396094446de59cde1f111"), looks := false }, kinds := [], alts := [], laidByText := true, laidKinds := [.data, .data, .data, .data], laidTests := true, laidLooks := .later }
def SeriesNamesCardSaid : Prop := Claim7.holds Tryd.pinned (.plain (OpenSpec.ofChange seriesNamesSpec)) seriesNamesCard

/-- THE SECOND FORM's CARD OF 'batonlaw22.SeriesPicks'. -/
def seriesPicksUptoCard : Claim7 := { stood := { row := seriesPicksUptoRow, standIns := [], harness := (true, "32d340ab83efc2cea71cc39317df558a3b5aaa98507396094446de59cde1f111"), looks := false }, kinds := [], alts := [], laidByText := true, laidKinds := [.data, .data, .data, .data], laidTests := true, laidLooks := .later }
def SeriesPicksUptoCardSaid : Prop := Claim7.holds Tryd.pinned (.plain (OpenSpec.upto seriesPicksSpec)) seriesPicksUptoCard

/-- THE SECOND FORM's CARD OF 'batonlaw22.SeriesNames'. -/
def seriesNamesUptoCard : Claim7 := { stood := { row := seriesNamesUptoRow, standIns := [], harness := (true, "32d340ab83efc2cea71cc39317df558a3b5aaa98507396094446de59cde1f111"), looks := false }, kinds := [], alts := [], laidByText := true, laidKinds := [.data, .data, .data, .data], laidTests := true, laidLooks := .later }
def SeriesNamesUptoCardSaid : Prop := Claim7.holds Tryd.pinned (.plain (OpenSpec.upto seriesNamesSpec)) seriesNamesUptoCard
end Rows
end Go.Proofs.YtbedpnklnamnhaaDoor

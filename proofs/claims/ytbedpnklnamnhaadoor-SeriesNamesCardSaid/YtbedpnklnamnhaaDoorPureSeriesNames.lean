import Derived.Test.YtbedpnklnamnhaaDoorPGx18
namespace Go.Proofs.YtbedpnklnamnhaaDoor.Pure
open Go.RowKit Go.Proofs.YtbedpnklnamnhaaDoor.PG
set_option maxRecDepth 100000 in
/-- The law's plain form: a closed computation. -/
theorem SeriesNames : batonlaw22_SeriesNames.Pure := ⟨60, by decide +kernel⟩
end Go.Proofs.YtbedpnklnamnhaaDoor.Pure

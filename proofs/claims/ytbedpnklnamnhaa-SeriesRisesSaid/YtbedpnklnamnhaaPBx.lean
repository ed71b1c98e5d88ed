/- The machine side of these statements: what each Go function computes as a plain function, and that its call computes just that. Written by a program of mine (wip/drive.py). No conditions. -/
import Derived.Test.YtbedpnklnamnhaaPBx0
import Derived.Test.YtbedpnklnamnhaaPBx1
import Derived.Test.YtbedpnklnamnhaaPBx2
import Derived.Test.YtbedpnklnamnhaaPBx3
import Derived.Test.YtbedpnklnamnhaaPBx4
import Derived.Test.YtbedpnklnamnhaaPBx5
import Derived.Test.YtbedpnklnamnhaaPBx6
namespace Go.Proofs.Ytbedpnklnamnhaa.PB
open Go.RowKit Go.Proofs.YtbedpnklnamnhaaW.PrintWords Go.Proofs.YtbedpnklnamnhaaW.PrintLast Go.Proofs.YtbedpnklnamnhaaW.PrintMore
attribute [local go_sem] max2_int min2_int max_two min_two max_three min_three max_four min_four   -- for this text's walks alone
set_option linter.unusedVariables false
set_option linter.unusedSimpArgs false

end Go.Proofs.Ytbedpnklnamnhaa.PB

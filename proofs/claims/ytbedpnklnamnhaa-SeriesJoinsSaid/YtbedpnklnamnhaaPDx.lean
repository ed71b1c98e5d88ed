/- The machine side of these statements: what each Go function computes as a plain function, and that its call computes just that. Written by a program of mine (wip/drive.py). No conditions. -/
import Derived.Test.YtbedpnklnamnhaaPDx0
import Derived.Test.YtbedpnklnamnhaaPDx1
import Derived.Test.YtbedpnklnamnhaaPDx2
import Derived.Test.YtbedpnklnamnhaaPDx3
import Derived.Test.YtbedpnklnamnhaaPDx4
import Derived.Test.YtbedpnklnamnhaaPDx5
import Derived.Test.YtbedpnklnamnhaaPDx6
import Derived.Test.YtbedpnklnamnhaaPDx7
import Derived.Test.YtbedpnklnamnhaaPDx8
import Derived.Test.YtbedpnklnamnhaaPDx9
import Derived.Test.YtbedpnklnamnhaaPDx10
import Derived.Test.YtbedpnklnamnhaaPDx12
import Derived.Test.YtbedpnklnamnhaaPDx13
import Derived.Test.YtbedpnklnamnhaaPDx14
namespace Go.Proofs.Ytbedpnklnamnhaa.PD
open Go.RowKit Go.Proofs.YtbedpnklnamnhaaW.PrintWords Go.Proofs.YtbedpnklnamnhaaW.PrintLast Go.Proofs.YtbedpnklnamnhaaW.PrintMore
attribute [local go_sem] max2_int min2_int max_two min_two max_three min_three max_four min_four   -- for this text's walks alone
set_option linter.unusedVariables false
set_option linter.unusedSimpArgs false

end Go.Proofs.Ytbedpnklnamnhaa.PD

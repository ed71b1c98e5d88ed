/- The machine side of these statements: what each Go function computes as a plain function, and that its call computes just that. Written by a program of mine (wip/drive.py). No conditions. -/
import Derived.Test.YtbedpnklnamnhaaPCx0
import Derived.Test.YtbedpnklnamnhaaPCx1
import Derived.Test.YtbedpnklnamnhaaPCx2
import Derived.Test.YtbedpnklnamnhaaPCx3
import Derived.Test.YtbedpnklnamnhaaPCx4
import Derived.Test.YtbedpnklnamnhaaPCx5
import Derived.Test.YtbedpnklnamnhaaPCx6
import Derived.Test.YtbedpnklnamnhaaPCx7
import Derived.Test.YtbedpnklnamnhaaPCx8
import Derived.Test.YtbedpnklnamnhaaPCx9
import Derived.Test.YtbedpnklnamnhaaPCx10
import Derived.Test.YtbedpnklnamnhaaPCx11
import Derived.Test.YtbedpnklnamnhaaPCx12
namespace Go.Proofs.Ytbedpnklnamnhaa.PC
open Go.RowKit Go.Proofs.YtbedpnklnamnhaaW.PrintWords Go.Proofs.YtbedpnklnamnhaaW.PrintLast Go.Proofs.YtbedpnklnamnhaaW.PrintMore
attribute [local go_sem] max2_int min2_int max_two min_two max_three min_three max_four min_four   -- for this text's walks alone
set_option linter.unusedVariables false
set_option linter.unusedSimpArgs false

end Go.Proofs.Ytbedpnklnamnhaa.PC

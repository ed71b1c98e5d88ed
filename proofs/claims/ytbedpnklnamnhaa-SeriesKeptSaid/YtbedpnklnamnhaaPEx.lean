/- The machine side of these statements: what each Go function computes as a plain function, and that its call computes just that. Written by a program of mine (wip/drive.py). No conditions. -/
import Derived.Test.YtbedpnklnamnhaaPEx0
import Derived.Test.YtbedpnklnamnhaaPEx1
import Derived.Test.YtbedpnklnamnhaaPEx2
import Derived.Test.YtbedpnklnamnhaaPEx3
import Derived.Test.YtbedpnklnamnhaaPEx4
import Derived.Test.YtbedpnklnamnhaaPEx5
import Derived.Test.YtbedpnklnamnhaaPEx6
import Derived.Test.YtbedpnklnamnhaaPEx7
import Derived.Test.YtbedpnklnamnhaaPEx8
import Derived.Test.YtbedpnklnamnhaaPEx9
import Derived.Test.YtbedpnklnamnhaaPEx10
import Derived.Test.YtbedpnklnamnhaaPEx11
import Derived.Test.YtbedpnklnamnhaaPEx13
import Derived.Test.YtbedpnklnamnhaaPEx14
import Derived.Test.YtbedpnklnamnhaaPEx15
namespace Go.Proofs.Ytbedpnklnamnhaa.PE
open Go.RowKit Go.Proofs.YtbedpnklnamnhaaW.PrintWords Go.Proofs.YtbedpnklnamnhaaW.PrintLast Go.Proofs.YtbedpnklnamnhaaW.PrintMore
attribute [local go_sem] max2_int min2_int max_two min_two max_three min_three max_four min_four   -- for this text's walks alone
set_option linter.unusedVariables false
set_option linter.unusedSimpArgs false

end Go.Proofs.Ytbedpnklnamnhaa.PE

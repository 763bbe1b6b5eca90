-- By drv.py, the session's own driver round the kit's print: the machine's side of the laws, function by function. Not trusted: Lean checks it.
import Derived.Test.YtbfnhklafkbncaaDoorVx0
import Derived.Test.YtbfnhklafkbncaaDoorVx1
import Derived.Test.YtbfnhklafkbncaaDoorVx2
import Derived.Test.YtbfnhklafkbncaaDoorVx3
import Derived.Test.YtbfnhklafkbncaaDoorVx4
import Derived.Test.YtbfnhklafkbncaaDoorVx5
import Derived.Test.YtbfnhklafkbncaaDoorVx6
import Derived.Test.YtbfnhklafkbncaaDoorVx7
import Derived.Test.YtbfnhklafkbncaaDoorVx8
import Derived.Test.YtbfnhklafkbncaaDoorVx9
import Derived.Test.YtbfnhklafkbncaaDoorVx10
import Derived.Test.YtbfnhklafkbncaaDoorVx11
import Derived.Test.YtbfnhklafkbncaaDoorVx12
namespace Go.Proofs.YtbfnhklafkbncaaDoor.V
open Go.RowKit Go.Proofs.YtbfnhklafkbncaaDoorW.PrintWords Go.Proofs.YtbfnhklafkbncaaDoorW.PrintLast Go.Proofs.YtbfnhklafkbncaaDoorW.PrintMore
attribute [local go_sem] max2_int min2_int max_two min_two max_three min_three max_four min_four   -- for this text's walks alone
set_option linter.unusedVariables false
set_option linter.unusedSimpArgs false

end Go.Proofs.YtbfnhklafkbncaaDoor.V

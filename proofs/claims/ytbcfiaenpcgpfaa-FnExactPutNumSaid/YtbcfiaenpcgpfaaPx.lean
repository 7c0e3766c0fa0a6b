-- By this session's own program (wip/myprint.py) out of the translation; Lean checks it.
import Derived.Test.YtbcfiaenpcgpfaaPx0
import Derived.Test.YtbcfiaenpcgpfaaPx1
import Derived.Test.YtbcfiaenpcgpfaaPx2
import Derived.Test.YtbcfiaenpcgpfaaPx3
import Derived.Test.YtbcfiaenpcgpfaaPx4
import Derived.Test.YtbcfiaenpcgpfaaPx5
import Derived.Test.YtbcfiaenpcgpfaaPx6
import Derived.Test.YtbcfiaenpcgpfaaPx7
namespace Go.Proofs.Ytbcfiaenpcgpfaa.P
open Go.RowKit Go.Proofs.YtbcfiaenpcgpfaaW.PrintWords Go.Proofs.YtbcfiaenpcgpfaaW.PrintLast Go.Proofs.YtbcfiaenpcgpfaaW.PrintMore
attribute [local go_sem] max2_int min2_int max_two min_two max_three min_three max_four min_four   -- for this text's walks alone
set_option linter.unusedVariables false
set_option linter.unusedSimpArgs false

end Go.Proofs.Ytbcfiaenpcgpfaa.P

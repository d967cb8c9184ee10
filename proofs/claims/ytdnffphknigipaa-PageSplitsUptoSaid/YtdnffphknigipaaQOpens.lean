-- Printed by this session's program wip/tools/mp.sh out of the translation.
import Derived.Test.YtdnffphknigipaaQx0
import Derived.Test.YtdnffphknigipaaOpen
namespace Go.Proofs.Ytdnffphknigipaa.Q
set_option linter.unusedVariables false
set_option linter.unusedSimpArgs false
open Go.RowKit Go.Proofs.YtdnffphknigipaaW.PrintWords Go.Proofs.YtdnffphknigipaaW.PrintLast Go.Proofs.YtdnffphknigipaaW.PrintMore Go.Proofs.Ytdnffphknigipaa.Open
open Go.Proofs.Ytdnffphknigipaa.Rows (uptoBulk uptoBulkAll)
end Go.Proofs.Ytdnffphknigipaa.Q

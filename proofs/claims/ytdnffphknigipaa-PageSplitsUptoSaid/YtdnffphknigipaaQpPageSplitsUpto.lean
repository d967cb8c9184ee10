-- Printed by this session's program wip/tools/mp.sh out of the translation.
import Derived.Test.YtdnffphknigipaaQx13
import Derived.Test.YtdnffphknigipaaQOpens
namespace Go.Proofs.Ytdnffphknigipaa.Q
set_option linter.unusedVariables false
open Go.RowKit Go.Proofs.YtdnffphknigipaaW.PrintWords Go.Proofs.YtdnffphknigipaaW.PrintLast Go.Proofs.YtdnffphknigipaaW.PrintMore Go.Proofs.Ytdnffphknigipaa.Open
/-- The one plain statement of spoorlaw05_PageSplits, where what comes in is of bulk at most 1048576. -/
def spoorlaw05_PageSplits.PureUpto : Prop := ∀ (a0 : Int) (a1 : ByteArray) (l2 : List ByteArray), (wfInt .u64) a0 → wfStr a1 → (fun l => wfAll wfStr l ∧ l.length ≤ maxLen) l2 → mu1 a0 + muStr a1 + (muAll muStr) l2 ≤ 1048576 → ∃ k, spoorlaw05_PageSplits.f k a0 a1 l2 = some true
end Go.Proofs.Ytdnffphknigipaa.Q

-- Printed by this session's program wip/tools/mp.sh out of the translation.
import Derived.Test.YtdnffphknigipaaQx14
import Derived.Test.YtdnffphknigipaaQOpens
namespace Go.Proofs.Ytdnffphknigipaa.Q
set_option linter.unusedVariables false
open Go.RowKit Go.Proofs.YtdnffphknigipaaW.PrintWords Go.Proofs.YtdnffphknigipaaW.PrintLast Go.Proofs.YtdnffphknigipaaW.PrintMore Go.Proofs.Ytdnffphknigipaa.Open
/-- The one plain statement of spoorlaw05_PageBack. -/
def spoorlaw05_PageBack.Pure : Prop := ∀ (a0 : Int) (a1 : ByteArray) (l2 : List ByteArray), (wfInt .u64) a0 → wfStr a1 → (fun l => wfAll wfStr l ∧ l.length ≤ maxLen) l2 → a1.size ≤ 140737488351232 → l2.length * 16 ≤ 140737488351232 → ∃ k, spoorlaw05_PageBack.f k a0 a1 l2 = some true
end Go.Proofs.Ytdnffphknigipaa.Q

-- Printed by this session's program wip/tools/mp.sh out of the translation.
import Derived.Test.YtnolpgphdnbfaaaQx13
import Derived.Test.YtnolpgphdnbfaaaQOpens
namespace Go.Proofs.Ytnolpgphdnbfaaa.Q
set_option linter.unusedVariables false
open Go.RowKit Go.Proofs.YtnolpgphdnbfaaaW.PrintWords Go.Proofs.YtnolpgphdnbfaaaW.PrintLast Go.Proofs.YtnolpgphdnbfaaaW.PrintMore Go.Proofs.Ytnolpgphdnbfaaa.Open
/-- The one plain statement of spoorlaw12_CutterBodies, where what comes in is of bulk at most 1048576. -/
def spoorlaw12_CutterBodies.PureUpto : Prop := ∀ (a0 : ByteArray) (l1 : List ByteArray), wfStr a0 → (fun l => wfAll wfStr l ∧ l.length ≤ maxLen) l1 → muStr a0 + (muAll muStr) l1 ≤ 1048576 → ∃ k, spoorlaw12_CutterBodies.f k a0 l1 = some true
end Go.Proofs.Ytnolpgphdnbfaaa.Q

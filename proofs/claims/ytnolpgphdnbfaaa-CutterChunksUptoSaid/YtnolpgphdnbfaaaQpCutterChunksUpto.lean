-- Printed by this session's program wip/tools/mp.sh out of the translation.
import Derived.Test.YtnolpgphdnbfaaaQx12
import Derived.Test.YtnolpgphdnbfaaaQOpens
namespace Go.Proofs.Ytnolpgphdnbfaaa.Q
set_option linter.unusedVariables false
open Go.RowKit Go.Proofs.YtnolpgphdnbfaaaW.PrintWords Go.Proofs.YtnolpgphdnbfaaaW.PrintLast Go.Proofs.YtnolpgphdnbfaaaW.PrintMore Go.Proofs.Ytnolpgphdnbfaaa.Open
/-- The one plain statement of spoorlaw12_CutterChunks, where what comes in is of bulk at most 1048576. -/
def spoorlaw12_CutterChunks.PureUpto : Prop := ∀ (a0_0 : ByteArray) (a0_1 : Bool) (a0_2 : Int) (l1 : List ByteArray), wf23 (⟨a0_0, a0_1, a0_2⟩ : S23) → (fun l => wfAll wfStr l ∧ l.length ≤ maxLen) l1 → mu23 (⟨a0_0, a0_1, a0_2⟩ : S23) + (muAll muStr) l1 ≤ 1048576 → ∃ k, spoorlaw12_CutterChunks.f k a0_0 a0_1 a0_2 l1 = some true
end Go.Proofs.Ytnolpgphdnbfaaa.Q

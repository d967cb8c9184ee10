-- Printed by this session's program wip/tools/mp.sh out of the translation.
import Derived.Test.YtnolpgphdnbfaaaQx14
import Derived.Test.YtnolpgphdnbfaaaQOpens
namespace Go.Proofs.Ytnolpgphdnbfaaa.Q
set_option linter.unusedVariables false
open Go.RowKit Go.Proofs.YtnolpgphdnbfaaaW.PrintWords Go.Proofs.YtnolpgphdnbfaaaW.PrintLast Go.Proofs.YtnolpgphdnbfaaaW.PrintMore Go.Proofs.Ytnolpgphdnbfaaa.Open
/-- The one plain statement of spoorlaw12_CutterSmall, where what comes in is of bulk at most 1048576. -/
def spoorlaw12_CutterSmall.PureUpto : Prop := ∀ (a0_0 : ByteArray) (a0_1 : Bool) (a0_2 : Int) (a1 : ByteArray), wf23 (⟨a0_0, a0_1, a0_2⟩ : S23) → wfStr a1 → mu23 (⟨a0_0, a0_1, a0_2⟩ : S23) + muStr a1 ≤ 1048576 → ∃ k, spoorlaw12_CutterSmall.f k a0_0 a0_1 a0_2 a1 = some true
end Go.Proofs.Ytnolpgphdnbfaaa.Q

-- Printed by this session's program wip/tools/mp.sh out of the translation.
import Derived.Test.YtafclgjnomocdaaQx14
import Derived.Test.YtafclgjnomocdaaQOpens
namespace Go.Proofs.Ytafclgjnomocdaa.Q
set_option linter.unusedVariables false
open Go.RowKit Go.Proofs.YtafclgjnomocdaaW.PrintWords Go.Proofs.YtafclgjnomocdaaW.PrintLast Go.Proofs.YtafclgjnomocdaaW.PrintMore Go.Proofs.Ytafclgjnomocdaa.Open
/-- The one plain statement of spoorlaw09_AddrSteps. -/
def spoorlaw09_AddrSteps.Pure : Prop := ∀ (a0 : Bool) (a1_0 : Int) (a1_1 : Int) (a2_0 : Int) (a2_1 : Int), wf24 (⟨a1_0, a1_1⟩ : S24) → wf24 (⟨a2_0, a2_1⟩ : S24) → ∃ k, spoorlaw09_AddrSteps.f k a0 a1_0 a1_1 a2_0 a2_1 = some true
end Go.Proofs.Ytafclgjnomocdaa.Q

-- Printed by this session's program wip/tools/mp.sh out of the translation.
import Derived.Test.YtafclgjnomocdaaQx24
import Derived.Test.YtafclgjnomocdaaQOpens
namespace Go.Proofs.Ytafclgjnomocdaa.Q
set_option linter.unusedVariables false
open Go.RowKit Go.Proofs.YtafclgjnomocdaaW.PrintWords Go.Proofs.YtafclgjnomocdaaW.PrintLast Go.Proofs.YtafclgjnomocdaaW.PrintMore Go.Proofs.Ytafclgjnomocdaa.Open
/-- The one plain statement of spoorlaw09_AddrBetween. -/
def spoorlaw09_AddrBetween.Pure : Prop := ∀ (a0_0 : Bool) (a0_1 : Int) (a0_2 : Int) (a0_3 : Int) (a1_0 : Bool) (a1_1 : Int) (a1_2 : Int) (a1_3 : Int) (a2_0 : Int) (a2_1 : Int), wf33 (⟨a0_0, (⟨a0_1, a0_2⟩ : S24), a0_3⟩ : S33) → wf33 (⟨a1_0, (⟨a1_1, a1_2⟩ : S24), a1_3⟩ : S33) → wf24 (⟨a2_0, a2_1⟩ : S24) → ∃ k, spoorlaw09_AddrBetween.f k a0_0 a0_1 a0_2 a0_3 a1_0 a1_1 a1_2 a1_3 a2_0 a2_1 = some true
end Go.Proofs.Ytafclgjnomocdaa.Q

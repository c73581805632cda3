import Derived.Test.YtfnealbmackjaaaElaw09c
import Derived.Test.YtfnealbmackjaaaPm
namespace Go.Proofs.Ytfnealbmackjaaa.Pure
open Go.RowKit Go.Proofs.Ytfnealbmackjaaa.Q Go.Proofs.YtfnealbmackjaaaW.PrintWords Go.Proofs.YtfnealbmackjaaaW.PrintLast Go.Proofs.YtfnealbmackjaaaW.PrintMore Go.Proofs.Ytfnealbmackjaaa.L
/-- The pure statement of ClintPast: numbers and lists alone. -/
def ClintPast.Said : Prop := ∀ (a0_0 : Int) (a0_1 : Int) (a0_2 : Bool) (a1 : Int), (Lit.int .u64 a0_0).wf = true → (Lit.int .u64 a0_1).wf = true → (Lit.int .i64 a1).wf = true → drawbridgelaw09_ClintPast.f a0_0 a0_1 a0_2 a1 = some true
end Go.Proofs.Ytfnealbmackjaaa.Pure

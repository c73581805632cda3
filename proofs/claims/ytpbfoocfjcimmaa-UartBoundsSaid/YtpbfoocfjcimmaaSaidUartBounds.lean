-- Ytpbfoocfjcimmaa: written by a program for this claim
import Derived.Test.YtpbfoocfjcimmaaQx3
import Derived.Test.YtpbfoocfjcimmaaPm
namespace Go.Proofs.Ytpbfoocfjcimmaa.Pure
open Go.RowKit Go.Proofs.Ytpbfoocfjcimmaa.Q Go.Proofs.YtpbfoocfjcimmaaW.PrintWords Go.Proofs.YtpbfoocfjcimmaaW.PrintLast Go.Proofs.YtpbfoocfjcimmaaW.PrintMore Go.Proofs.Ytpbfoocfjcimmaa.L
/-- The pure statement of UartBounds: numbers and lists alone. -/
def UartBounds.Said : Prop := ∀ (l0 : List (List Int)), l0.length ≤ maxLen → (∀ z ∈ l0, z.length ≤ maxLen ∧ ∀ y ∈ z, (Lit.int .u8 y).wf = true) → ∃ k, drawbridgelaw11_UartBounds.f k l0 = some true
end Go.Proofs.Ytpbfoocfjcimmaa.Pure

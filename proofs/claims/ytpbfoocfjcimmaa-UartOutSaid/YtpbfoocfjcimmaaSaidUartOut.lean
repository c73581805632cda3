-- Ytpbfoocfjcimmaa: written by a program for this claim
import Derived.Test.YtpbfoocfjcimmaaQx3
import Derived.Test.YtpbfoocfjcimmaaPm
namespace Go.Proofs.Ytpbfoocfjcimmaa.Pure
open Go.RowKit Go.Proofs.Ytpbfoocfjcimmaa.Q Go.Proofs.YtpbfoocfjcimmaaW.PrintWords Go.Proofs.YtpbfoocfjcimmaaW.PrintLast Go.Proofs.YtpbfoocfjcimmaaW.PrintMore Go.Proofs.Ytpbfoocfjcimmaa.L
/-- The pure statement of UartOut: numbers and lists alone. -/
def UartOut.Said : Prop := ∀ (l0_0 : List Int) (l0_1 : List Int) (a0_2 : Int) (a0_3 : Int) (l1 : List Int), l0_0.length ≤ maxLen → (∀ z ∈ l0_0, (Lit.int .u8 z).wf = true) → l0_1.length ≤ maxLen → (∀ z ∈ l0_1, (Lit.int .u8 z).wf = true) → (Lit.int .i64 a0_2).wf = true → (Lit.int .i64 a0_3).wf = true → l1.length ≤ maxLen → (∀ z ∈ l1, (Lit.int .u8 z).wf = true) → ∃ k, drawbridgelaw11_UartOut.f k l0_0 l0_1 a0_2 a0_3 l1 = some true
end Go.Proofs.Ytpbfoocfjcimmaa.Pure

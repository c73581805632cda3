import Derived.Test.YtgcpedenlbcdgaaHQx10
import Derived.Test.YtgcpedenlbcdgaaPm
-- Ytgcpedenlbcdgaa: written by a program for this claim
namespace Go.Proofs.Ytgcpedenlbcdgaa.Pure
open Go.RowKit Go.Proofs.Ytgcpedenlbcdgaa.Q Go.Proofs.YtgcpedenlbcdgaaW.PrintWords Go.Proofs.YtgcpedenlbcdgaaW.PrintLast Go.Proofs.YtgcpedenlbcdgaaW.PrintMore Go.Proofs.Ytgcpedenlbcdgaa.L
/-- The pure statement of DecodeShort: numbers and lists alone. -/
def DecodeShort.Said : Prop := ∀ (a0 : Int), (Lit.int .u16 a0).wf = true → ∃ k, drawbridgelaw03_DecodeShort.f k a0 = some true
end Go.Proofs.Ytgcpedenlbcdgaa.Pure

import Derived.Test.YtgcpedenlbcdgaaHZ6
import Derived.Test.YtgcpedenlbcdgaaPm
-- Ytgcpedenlbcdgaa: the row's plain statement
namespace Go.Proofs.Ytgcpedenlbcdgaa.Pure
open Go.RowKit Go.Proofs.Ytgcpedenlbcdgaa.Q Go.Proofs.YtgcpedenlbcdgaaW.PrintWords Go.Proofs.YtgcpedenlbcdgaaW.PrintLast Go.Proofs.YtgcpedenlbcdgaaW.PrintMore Go.Proofs.Ytgcpedenlbcdgaa.L
/-- The pure statement of DecodeRanges: numbers and lists alone. -/
def DecodeRanges.Said : Prop := ∀ (a0 : Int), (Lit.int .u32 a0).wf = true → ∃ k, drawbridgelaw03_DecodeRanges.f k a0 = some true
end Go.Proofs.Ytgcpedenlbcdgaa.Pure

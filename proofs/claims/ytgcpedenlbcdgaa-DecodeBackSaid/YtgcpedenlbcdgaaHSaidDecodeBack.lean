import Derived.Test.YtgcpedenlbcdgaaHQx12
import Derived.Test.YtgcpedenlbcdgaaPm
-- Ytgcpedenlbcdgaa: written by a program for this claim
namespace Go.Proofs.Ytgcpedenlbcdgaa.Pure
open Go.RowKit Go.Proofs.Ytgcpedenlbcdgaa.Q Go.Proofs.YtgcpedenlbcdgaaW.PrintWords Go.Proofs.YtgcpedenlbcdgaaW.PrintLast Go.Proofs.YtgcpedenlbcdgaaW.PrintMore Go.Proofs.Ytgcpedenlbcdgaa.L
/-- The pure statement of DecodeBack: numbers and lists alone. -/
def DecodeBack.Said : Prop := ∀ (a0 : Int), (Lit.int .u32 a0).wf = true → drawbridgelaw03_DecodeBack.f a0 = some true
end Go.Proofs.Ytgcpedenlbcdgaa.Pure

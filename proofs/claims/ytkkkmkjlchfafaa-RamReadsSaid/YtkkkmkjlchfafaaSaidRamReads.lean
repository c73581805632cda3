-- Ytkkkmkjlchfafaa: written by a program for this claim
import Derived.Test.YtkkkmkjlchfafaaQx6
import Derived.Test.YtkkkmkjlchfafaaPm
namespace Go.Proofs.Ytkkkmkjlchfafaa.Pure
open Go.RowKit Go.Proofs.Ytkkkmkjlchfafaa.Q Go.Proofs.YtkkkmkjlchfafaaW.PrintWords Go.Proofs.YtkkkmkjlchfafaaW.PrintLast Go.Proofs.YtkkkmkjlchfafaaW.PrintMore Go.Proofs.Ytkkkmkjlchfafaa.L
/-- The pure statement of RamReads: numbers and lists alone. -/
def RamReads.Said : Prop := ∀ (l0_0 : List Int) (a1 : Int) (a2 : Int), l0_0.length ≤ maxLen → (∀ z ∈ l0_0, (Lit.int .u8 z).wf = true) → (Lit.int .u64 a1).wf = true → (Lit.int .i64 a2).wf = true → ∃ k, drawbridgelaw07_RamReads.f k l0_0 a1 a2 = some true
end Go.Proofs.Ytkkkmkjlchfafaa.Pure

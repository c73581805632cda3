-- Ytkkkmkjlchfafaa: written by a program for this claim
import Derived.Test.YtkkkmkjlchfafaaQx9
import Derived.Test.YtkkkmkjlchfafaaPm
namespace Go.Proofs.Ytkkkmkjlchfafaa.Pure
open Go.RowKit Go.Proofs.Ytkkkmkjlchfafaa.Q Go.Proofs.YtkkkmkjlchfafaaW.PrintWords Go.Proofs.YtkkkmkjlchfafaaW.PrintLast Go.Proofs.YtkkkmkjlchfafaaW.PrintMore Go.Proofs.Ytkkkmkjlchfafaa.L
/-- The pure statement of RamKeeps: numbers and lists alone. -/
def RamKeeps.Said : Prop := ∀ (l0_0 : List Int) (a1 : Int) (l2 : List Int) (a3 : Int), l0_0.length ≤ maxLen → (∀ z ∈ l0_0, (Lit.int .u8 z).wf = true) → (Lit.int .u64 a1).wf = true → l2.length ≤ maxLen → (∀ z ∈ l2, (Lit.int .u8 z).wf = true) → (Lit.int .u64 a3).wf = true → ∃ k, drawbridgelaw07_RamKeeps.f k l0_0 a1 l2 a3 = some true
end Go.Proofs.Ytkkkmkjlchfafaa.Pure

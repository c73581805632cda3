import Derived.Test.YtbidnolopbjlaaaHQx10
import Derived.Test.YtbidnolopbjlaaaPm
-- Ytbidnolopbjlaaa: written by a program for this claim
namespace Go.Proofs.Ytbidnolopbjlaaa.Pure
open Go.RowKit Go.Proofs.Ytbidnolopbjlaaa.Q Go.Proofs.YtbidnolopbjlaaaW.PrintWords Go.Proofs.YtbidnolopbjlaaaW.PrintLast Go.Proofs.YtbidnolopbjlaaaW.PrintMore Go.Proofs.Ytbidnolopbjlaaa.L
/-- The pure statement of Sv39Leads: numbers and lists alone. -/
def Sv39Leads.Said : Prop := ∀ (l0_0 : List Int) (a1 : Int) (a2 : Int) (a3 : Int) (a4 : Int) (a5 : Int), l0_0.length ≤ maxLen → (∀ z ∈ l0_0, (Lit.int .u8 z).wf = true) → (Lit.int .u64 a1).wf = true → (Lit.int .u64 a2).wf = true → (Lit.int .i64 a3).wf = true → (Lit.int .u64 a4).wf = true → (Lit.int .i64 a5).wf = true → ∃ k, drawbridgelaw08_Sv39Leads.f k l0_0 a1 a2 a3 a4 a5 = some true
end Go.Proofs.Ytbidnolopbjlaaa.Pure

import Derived.Test.YtmlpnjoejdpblaaHQx14
import Derived.Test.YtmlpnjoejdpblaaPl
-- Ytmlpnjoejdpblaa: written by a program for this claim
namespace Go.Proofs.Ytmlpnjoejdpblaa.Pure
open Go.RowKit Go.Proofs.Ytmlpnjoejdpblaa.Q Go.Proofs.YtmlpnjoejdpblaaW.PrintWords Go.Proofs.YtmlpnjoejdpblaaW.PrintLast Go.Proofs.YtmlpnjoejdpblaaW.PrintMore Go.Proofs.Ytmlpnjoejdpblaa.L
/-- The pure statement of PlicBest: numbers and lists alone. -/
def PlicBest.Said : Prop := ∀ (l0_0 : List Int) (a0_1 : Int) (a0_2 : Int) (l0_3 : List Int) (l0_4 : List Int) (a1 : Int), l0_0.length ≤ maxLen → (∀ z ∈ l0_0, (Lit.int .i64 z).wf = true) → (Lit.int .i64 a0_1).wf = true → (Lit.int .i64 a0_2).wf = true → l0_3.length ≤ maxLen → (∀ z ∈ l0_3, (Lit.int .i64 z).wf = true) → l0_4.length ≤ maxLen → (∀ z ∈ l0_4, (Lit.int .i64 z).wf = true) → (Lit.int .i64 a1).wf = true → ∃ k, drawbridgelaw10_PlicBest.f k l0_0 a0_1 a0_2 l0_3 l0_4 a1 = some true
end Go.Proofs.Ytmlpnjoejdpblaa.Pure

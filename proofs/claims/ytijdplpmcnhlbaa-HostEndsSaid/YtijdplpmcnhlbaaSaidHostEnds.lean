-- Ytijdplpmcnhlbaa: written by a program for this claim
import Derived.Test.YtijdplpmcnhlbaaQx11
import Derived.Test.YtijdplpmcnhlbaaPm
namespace Go.Proofs.Ytijdplpmcnhlbaa.Pure
open Go.RowKit Go.Proofs.Ytijdplpmcnhlbaa.Q Go.Proofs.YtijdplpmcnhlbaaW.PrintWords Go.Proofs.YtijdplpmcnhlbaaW.PrintLast Go.Proofs.YtijdplpmcnhlbaaW.PrintMore Go.Proofs.Ytijdplpmcnhlbaa.L
def HostEnds.wf34 (x : S34) : Prop := ((Lit.int .i64 x.f0).wf = true) ∧ ((Lit.int .i64 x.f1).wf = true) ∧ ((Lit.int .u32 x.f2).wf = true) ∧ ((Lit.int .i64 x.f3).wf = true)
/-- The pure statement of HostEnds: numbers and lists alone. -/
def HostEnds.Said : Prop := ∀ (l0 : List S34) (a1 : Int) (a2_0 : Int) (a2_1 : Int) (l2_2 : List Int) (a2_3 : Int), l0.length ≤ maxLen → (∀ z ∈ l0, HostEnds.wf34 z) → (Lit.int .i64 a1).wf = true → (Lit.int .i64 a2_0).wf = true → (Lit.int .i64 a2_1).wf = true → l2_2.length ≤ maxLen → (∀ z ∈ l2_2, (Lit.int .u8 z).wf = true) → (Lit.int .i64 a2_3).wf = true → ∃ k, drawbridgelaw27_HostEnds.f k l0 a1 a2_0 a2_1 l2_2 a2_3 = some true
end Go.Proofs.Ytijdplpmcnhlbaa.Pure

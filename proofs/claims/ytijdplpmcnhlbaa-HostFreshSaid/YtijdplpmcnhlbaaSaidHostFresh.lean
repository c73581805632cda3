-- Ytijdplpmcnhlbaa: written by a program for this claim
import Derived.Test.YtijdplpmcnhlbaaQx12
import Derived.Test.YtijdplpmcnhlbaaPm
namespace Go.Proofs.Ytijdplpmcnhlbaa.Pure
open Go.RowKit Go.Proofs.Ytijdplpmcnhlbaa.Q Go.Proofs.YtijdplpmcnhlbaaW.PrintWords Go.Proofs.YtijdplpmcnhlbaaW.PrintLast Go.Proofs.YtijdplpmcnhlbaaW.PrintMore Go.Proofs.Ytijdplpmcnhlbaa.L
def HostFresh.wf34 (x : S34) : Prop := ((Lit.int .i64 x.f0).wf = true) ∧ ((Lit.int .i64 x.f1).wf = true) ∧ ((Lit.int .u32 x.f2).wf = true) ∧ ((Lit.int .i64 x.f3).wf = true)
/-- The pure statement of HostFresh: numbers and lists alone. -/
def HostFresh.Said : Prop := ∀ (l0 : List S34) (a1 : Int) (a2 : Int) (a3 : Int), l0.length ≤ maxLen → (∀ z ∈ l0, HostFresh.wf34 z) → (Lit.int .u32 a1).wf = true → (Lit.int .i64 a2).wf = true → (Lit.int .i64 a3).wf = true → ∃ k, drawbridgelaw27_HostFresh.f k l0 a1 a2 a3 = some true
end Go.Proofs.Ytijdplpmcnhlbaa.Pure

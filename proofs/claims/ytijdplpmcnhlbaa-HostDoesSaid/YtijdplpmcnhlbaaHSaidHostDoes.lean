import Derived.Test.YtijdplpmcnhlbaaHLwDoes
import Derived.Test.YtijdplpmcnhlbaaPl
namespace Go.Proofs.Ytijdplpmcnhlbaa.Pure
open Go.RowKit Go.Proofs.Ytijdplpmcnhlbaa.Q Go.Proofs.YtijdplpmcnhlbaaW.PrintWords Go.Proofs.YtijdplpmcnhlbaaW.PrintLast Go.Proofs.YtijdplpmcnhlbaaW.PrintMore Go.Proofs.Ytijdplpmcnhlbaa.L
def HostDoes.wf34 (x : S34) : Prop := ((Lit.int .i64 x.f0).wf = true) ∧ ((Lit.int .i64 x.f1).wf = true) ∧ ((Lit.int .u32 x.f2).wf = true) ∧ ((Lit.int .i64 x.f3).wf = true)
/-- The pure statement of HostDoes: numbers and lists alone. -/
def HostDoes.Said : Prop := ∀ (l0 : List S34) (a1_0 : Int) (a1_1 : Int) (l1_2 : List Int) (a1_3 : Int) (a2 : Int) (a3 : Int), l0.length ≤ maxLen → (∀ z ∈ l0, HostDoes.wf34 z) → (Lit.int .i64 a1_0).wf = true → (Lit.int .i64 a1_1).wf = true → l1_2.length ≤ maxLen → (∀ z ∈ l1_2, (Lit.int .u8 z).wf = true) → (Lit.int .i64 a1_3).wf = true → (Lit.int .u32 a2).wf = true → (Lit.int .i64 a3).wf = true → drawbridgelaw27_HostDoes.f l0 a1_0 a1_1 l1_2 a1_3 a2 a3 = some true
end Go.Proofs.Ytijdplpmcnhlbaa.Pure

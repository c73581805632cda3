import Derived.Test.YtncdhfigfbhohaaLwViews
import Derived.Test.YtncdhfigfbhohaaPm
namespace Go.Proofs.Ytncdhfigfbhohaa.Pure
open Go.RowKit Go.Proofs.Ytncdhfigfbhohaa.Q Go.Proofs.YtncdhfigfbhohaaW.PrintWords Go.Proofs.YtncdhfigfbhohaaW.PrintLast Go.Proofs.YtncdhfigfbhohaaW.PrintMore Go.Proofs.Ytncdhfigfbhohaa.L
/-- The pure statement of CsrViews: numbers and lists alone. -/
def CsrViews.Said : Prop := ∀ (a0_0 : Int) (a0_1 : Int) (a0_2 : Int) (a0_3 : Int) (a0_4 : Int) (a0_5 : Int) (a0_6 : Int) (a0_7 : Int) (a0_8 : Int) (a0_9 : Int) (a0_10 : Int) (a0_11 : Int) (a0_12 : Int) (a0_13 : Int) (a0_14 : Int) (a0_15 : Int) (a0_16 : Int) (a1 : Int), (Lit.int .u64 a0_0).wf = true → (Lit.int .u64 a0_1).wf = true → (Lit.int .u64 a0_2).wf = true → (Lit.int .u64 a0_3).wf = true → (Lit.int .u64 a0_4).wf = true → (Lit.int .u64 a0_5).wf = true → (Lit.int .u64 a0_6).wf = true → (Lit.int .u64 a0_7).wf = true → (Lit.int .u64 a0_8).wf = true → (Lit.int .u64 a0_9).wf = true → (Lit.int .u64 a0_10).wf = true → (Lit.int .u64 a0_11).wf = true → (Lit.int .u64 a0_12).wf = true → (Lit.int .u64 a0_13).wf = true → (Lit.int .u64 a0_14).wf = true → (Lit.int .u64 a0_15).wf = true → (Lit.int .u64 a0_16).wf = true → (Lit.int .u64 a1).wf = true → drawbridgelaw05_CsrViews.f a0_0 a0_1 a0_2 a0_3 a0_4 a0_5 a0_6 a0_7 a0_8 a0_9 a0_10 a0_11 a0_12 a0_13 a0_14 a0_15 a0_16 a1 = some true
end Go.Proofs.Ytncdhfigfbhohaa.Pure

import Derived.Test.YtdblpflepfcnjaaHLwDrains
import Derived.Test.YtdblpflepfcnjaaPm
namespace Go.Proofs.Ytdblpflepfcnjaa.Pure
open Go.RowKit Go.Proofs.Ytdblpflepfcnjaa.Q Go.Proofs.YtdblpflepfcnjaaW.PrintWords Go.Proofs.YtdblpflepfcnjaaW.PrintLast Go.Proofs.YtdblpflepfcnjaaW.PrintMore Go.Proofs.Ytdblpflepfcnjaa.L
/-- The pure statement of NicDrains: numbers and lists alone. -/
def NicDrains.Said : Prop := ∀ (a0_0 : Int) (a0_1 : Int) (a0_2 : Int) (a0_3 : Int) (a0_4 : Int) (a0_5 : Int) (a0_6 : Int) (a0_7 : Int) (a0_8 : Int) (a0_9 : Int) (a0_10 : Int) (a0_11 : Int) (a0_12 : Int) (l0_13 : List Int) (l1_0 : List Int), (Lit.int .i64 a0_0).wf = true → (Lit.int .i64 a0_1).wf = true → (Lit.int .i64 a0_2).wf = true → (Lit.int .u64 a0_3).wf = true → (Lit.int .i64 a0_4).wf = true → (Lit.int .i64 a0_5).wf = true → (Lit.int .i64 a0_6).wf = true → (Lit.int .u64 a0_7).wf = true → (Lit.int .i64 a0_8).wf = true → (Lit.int .i64 a0_9).wf = true → (Lit.int .i64 a0_10).wf = true → (Lit.int .i64 a0_11).wf = true → (Lit.int .i64 a0_12).wf = true → l0_13.length ≤ maxLen → (∀ z ∈ l0_13, (Lit.int .u8 z).wf = true) → l1_0.length ≤ maxLen → (∀ z ∈ l1_0, (Lit.int .u8 z).wf = true) → drawbridgelaw12_NicDrains.f a0_0 a0_1 a0_2 a0_3 a0_4 a0_5 a0_6 a0_7 a0_8 a0_9 a0_10 a0_11 a0_12 l0_13 l1_0 = some true
end Go.Proofs.Ytdblpflepfcnjaa.Pure

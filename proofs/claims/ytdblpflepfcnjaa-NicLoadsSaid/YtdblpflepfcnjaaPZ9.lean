import Derived.Test.YtdblpflepfcnjaaPXLwLoads
import Derived.Test.YtdblpflepfcnjaaPZ1
import Derived.Test.YtdblpflepfcnjaaPZ3
section
namespace Go.Proofs.Ytdblpflepfcnjaa.Pure
open Go.RowKit Go.Proofs.Ytdblpflepfcnjaa.Q Go.Proofs.YtdblpflepfcnjaaW.PrintWords Go.Proofs.YtdblpflepfcnjaaW.PrintLast Go.Proofs.YtdblpflepfcnjaaW.PrintMore Go.Proofs.Ytdblpflepfcnjaa.L
/-- The pure statement of NicLoads: numbers and lists alone. -/
def NicLoads.Said : Prop := ∀ (a0_0 : Int) (a0_1 : Int) (a0_2 : Int) (a0_3 : Int) (a0_4 : Int) (a0_5 : Int) (a0_6 : Int) (a0_7 : Int) (a0_8 : Int) (a0_9 : Int) (a0_10 : Int) (a0_11 : Int) (a0_12 : Int) (l0_13 : List Int) (a1 : Int) (a2 : Int) (a3 : Int) (l4 : List Int), (Lit.int .i64 a0_0).wf = true → (Lit.int .i64 a0_1).wf = true → (Lit.int .i64 a0_2).wf = true → (Lit.int .u64 a0_3).wf = true → (Lit.int .i64 a0_4).wf = true → (Lit.int .i64 a0_5).wf = true → (Lit.int .i64 a0_6).wf = true → (Lit.int .u64 a0_7).wf = true → (Lit.int .i64 a0_8).wf = true → (Lit.int .i64 a0_9).wf = true → (Lit.int .i64 a0_10).wf = true → (Lit.int .i64 a0_11).wf = true → (Lit.int .i64 a0_12).wf = true → l0_13.length ≤ maxLen → (∀ z ∈ l0_13, (Lit.int .u8 z).wf = true) → (Lit.int .u64 a1).wf = true → (Lit.int .i64 a2).wf = true → (Lit.int .u64 a3).wf = true → l4.length ≤ maxLen → (∀ z ∈ l4, (Lit.int .u8 z).wf = true) → drawbridgelaw12_NicLoads.f a0_0 a0_1 a0_2 a0_3 a0_4 a0_5 a0_6 a0_7 a0_8 a0_9 a0_10 a0_11 a0_12 l0_13 a1 a2 a3 l4 = some true
end Go.Proofs.Ytdblpflepfcnjaa.Pure
end
section
/- NicLoads, in plain numbers and lists: what is asked of the inputs is what every Go value is. No condition beyond the statement's own. -/
namespace Go.Proofs.Ytdblpflepfcnjaa.Pure
open Go.RowKit Go.Proofs.Ytdblpflepfcnjaa.Q Go.Proofs.Ytdblpflepfcnjaa.L
theorem NicLoads : NicLoads.Said := by
  intro a0 a1 a2 a3 a4 a5 a6 a7 a8 a9 a10 a11 a12 lm off size x am _ _ _ h3 _ _ _ h7 _ _ _ _ _ _ hmb ho _ hx _ _
  unfold drawbridgelaw12_NicLoads.f
  rw [if_pos ⟨fun z hz => byte_wf (hmb z hz), (u64_wf h3).1, (u64_wf h7).1, u64_wf ho, u64_wf hx⟩]
end Go.Proofs.Ytdblpflepfcnjaa.Pure
end

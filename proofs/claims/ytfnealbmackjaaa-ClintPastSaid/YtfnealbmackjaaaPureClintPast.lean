/- ClintPast, in plain numbers. -/
import Derived.Test.YtfnealbmackjaaaSaidClintPast
import Derived.Test.YtfnealbmackjaaaWf
namespace Go.Proofs.Ytfnealbmackjaaa.Pure
open Go.RowKit Go.Proofs.Ytfnealbmackjaaa.Q Go.Proofs.Ytfnealbmackjaaa.L
theorem ClintPast : ClintPast.Said := by
  intro a0_0 a0_1 a0_2 a1 h0 h1 h2
  unfold drawbridgelaw09_ClintPast.f
  rw [if_pos ⟨wf_u64B h0, wf_u64B h1, h2⟩]
end Go.Proofs.Ytfnealbmackjaaa.Pure

/- ClintBack, in plain numbers. -/
import Derived.Test.YtfnealbmackjaaaSaidClintBack
import Derived.Test.YtfnealbmackjaaaWf
namespace Go.Proofs.Ytfnealbmackjaaa.Pure
open Go.RowKit Go.Proofs.Ytfnealbmackjaaa.Q Go.Proofs.Ytfnealbmackjaaa.L
theorem ClintBack : ClintBack.Said := by
  intro a0_0 a0_1 a0_2 a1 a2 a3 a4 h0 h1 h2 h3 h4 h5
  unfold drawbridgelaw09_ClintBack.f
  rw [if_pos ⟨wf_u64B h0, wf_u64B h1, wf_u64B h2, wf_u64B h4, wf_u64B h5⟩]
end Go.Proofs.Ytfnealbmackjaaa.Pure

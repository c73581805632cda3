/- TrapLess, in plain numbers. -/
import Derived.Test.YtnlmndpdalgppaaSaidTrapLess
import Derived.Test.YtnlmndpdalgppaaWf
namespace Go.Proofs.Ytnlmndpdalgppaa.Pure
open Go.RowKit Go.Proofs.Ytnlmndpdalgppaa.Q Go.Proofs.Ytnlmndpdalgppaa.L
theorem TrapLess : TrapLess.Said := by
  intro a0_0 a0_1 a0_2 a0_3 a0_4 a0_5 a0_6 a0_7 a0_8 a0_9 a0_10 a0_11 a0_12 a0_13 a0_14 a0_15 a0_16 a1 h0 h1 h2 h3 h4 h5 h6 h7 h8 h9 h10 h11 h12 h13 h14 h15 h16 _
  unfold drawbridgelaw06_TrapLess.f
  rw [if_pos ⟨wf_u64B h2, wf_u64B h3, wf_u64B h4⟩]
end Go.Proofs.Ytnlmndpdalgppaa.Pure

import Derived.Test.YtnlmndpdalgppaaHSaidTrapBack
import Derived.Test.YtnlmndpdalgppaaWf
/- TrapBack, in plain numbers. -/
namespace Go.Proofs.Ytnlmndpdalgppaa.Pure
open Go.RowKit Go.Proofs.Ytnlmndpdalgppaa.Q Go.Proofs.Ytnlmndpdalgppaa.L
theorem TrapBack : TrapBack.Said := by
  intro a0_0 a0_1 a0_2 a0_3 a0_4 a0_5 a0_6 a0_7 a0_8 a0_9 a0_10 a0_11 a0_12 a0_13 a0_14 a0_15 a0_16 a1 a2 a3 a4 h0 h1 h2 h3 h4 h5 h6 h7 h8 h9 h10 h11 h12 h13 h14 h15 h16 _ hp _
  unfold drawbridgelaw06_TrapBack.f
  rw [if_pos ⟨wf_u64B h0, wf_u64B h5, wf_u64B h10, wf_u64B hp⟩]
end Go.Proofs.Ytnlmndpdalgppaa.Pure

import Derived.Test.YtdblpflepfcnjaaHSaidNicWithin
import Derived.Test.YtdblpflepfcnjaaHZ2
/- NicWithin, in plain numbers and lists: what is asked of the inputs is what every Go value is. No condition beyond the statement's own. -/
namespace Go.Proofs.Ytdblpflepfcnjaa.Pure
open Go.RowKit Go.Proofs.Ytdblpflepfcnjaa.Q Go.Proofs.Ytdblpflepfcnjaa.L
theorem NicWithin : NicWithin.Said := by
  intro a0 a1 a2 a3 a4 a5 a6 a7 a8 a9 a10 a11 a12 lm l fr _ _ _ _ _ _ _ _ _ _ _ _ _ _ hmb _ hlb _ _
  unfold drawbridgelaw12_NicWithin.f
  rw [if_pos (fun z hz => byte_wf (hlb z hz))]
end Go.Proofs.Ytdblpflepfcnjaa.Pure

/- What is known of an argument's numbers. -/
import Derived.Test.YtdblpflepfcnjaaPm
import Derived.ProofKit
import Derived.OpenShut
namespace Go.Proofs.Ytdblpflepfcnjaa.L
open Go.RowKit
theorem wf_u64B {x : Int} (h : (Lit.int .u64 x).wf = true) : u64B x := by
  have := bounds_u64 h
  exact ⟨by omega, by omega⟩
end Go.Proofs.Ytdblpflepfcnjaa.L
